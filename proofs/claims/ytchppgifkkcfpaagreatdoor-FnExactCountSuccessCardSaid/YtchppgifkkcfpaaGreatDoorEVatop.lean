import Derived.Test.YtchppgifkkcfpaaGreatDoorVKatos
/- Printed by wip/tools: models, walks, proofs. -/
set_option linter.all false
namespace Go.EV
open Go.RowKit Go.VK
structure Uni where
 El:Nat->Type
 K:Nat->Nat
 enc:(τ:Nat)->El τ->List V
inductive Lf (U:Uni) where
 |int (k:IntKind) (n:Int)
 |bool (b:Bool)
 |str (s:ByteArray)
 |nat (a:Nat)
 |lt (a:Nat) (m:Int)
 |sl (τ:Nat) (l:List (U.El τ))
 |nil
 |own (i r:Nat)
 |bor (i c τ:Nat) (l:List (U.El τ))
 |inn (i c τ:Nat) (q:Int) (z:U.El τ) (j τ':Nat) (l:List (U.El τ'))
 |box (i off:Nat)
 |ptr (τ:Nat) (z:U.El τ) (off:Nat)
 |oel (i c τ:Nat) (q:Int) (z:U.El τ) (off:Nat)
 |oin (i c τ:Nat) (q:Int) (z:U.El τ) (j τ':Nat) (l:List (U.El τ')) (q':Int) (z':U.El τ') (off:Nat)
 |suf (i c τ:Nat) (q:Int) (l:List (U.El τ))
 |und
 |any
variable {U:Uni}
def Lf.toV:Lf U->V
 | .int k n=> .int k n
 | .bool b=> .bool b
 | .str s=> .str s
 | .sl τ l=> .slice (U.K τ) (l.map (U.enc τ))
 | .nil=> .nil
 |_=> .any
def Lf.aBB:Lf U->Bool
 | .int .. | .bool _| .str _| .sl .. =>true
 |_=>false
structure Cod (U:Uni) where
 cel:(τ:Nat)->U.El τ->List (Lf U)
 bld:(τ:Nat)->List (Lf U)->Option (U.El τ)
 hcel:∀τ x,(cel τ x).map Lf.toV=U.enc τ x
 hlen:∀τ x,(cel τ x).length=U.K τ
 hdat:∀τ x c,c∈cel τ x->c.aBB=true
 hmk:∀τ cs x,bld τ cs=some x->cs=cel τ x
inductive Ob (U:Uni) where
 |dead
 |box (T:Nat) (cs:List (Lf U)) (vs:List Nat)
 |tree (τ:Nat) (d:Bool) (l:List (U.El τ))
def Ob.aAW:Ob U->Bool
 | .box .. =>true
 |_=>false
structure EO (U:Uni) where
 ob:Ob U
 rv:Nat
 cv:Nat
inductive Sv (U:Uni) where
 |l (x:Lf U)
 |a (cs:List (Lf U))
 |t (xs:List (Bool×List (Lf U)))
structure Mm (U:Uni) where
 o:List (EO U)
 k:Nat
 ns:List (Nat×Bool)
structure St (U:Uni) where
 t:List (Sv U)
 m:Mm U
 fr:List (List (Sv U))
structure Tr where
 b:Option Nat
 n:Nat
 c:Nat
 bs:List Nat
def Tr.val (t:Tr):Value:= .slice (t.b.map λb=>⟨b,0,none⟩) t.n t.c
def Tr.all (t:Tr):List Nat:=t.b.toList++t.bs
def aYs (K:Nat)(t:Tr)(q n:Nat):Value:= .slice (if t.c=q then t.b.map λb=>⟨b,0,none⟩ else(t.b.map λb=>(⟨b,0,none⟩:Addr)).map λp=>p.add (q*K)) (n-q) (t.c-q)
mutual
inductive Ow (C:Cod U) (w:World) (X:Nat->Prop) (d:Bool):Value->Lf U->List Nat->Prop
 |int {k:IntKind} {n:Int} (h1:k.min<=n) (h2:n<=k.max):Ow C w X d (.int k n) (.int k n) []
 |bool {b:Bool}:Ow C w X d (.bool b) (.bool b) []
 |str {s:ByteArray} (h:s.size<=maxLen):Ow C w X d (.string s) (.str s) []
 |fz {v:Value} {τ:Nat} {l:List (U.El τ)} (hd:d=false) (h:Rd w X [] v (.slice (U.K τ) (l.map (U.enc τ)))):Ow C w X d v (.sl τ l) []
 |sl {τ:Nat} {l:List (U.El τ)} {xs:List Value} (t:Tr) (hk:0<U.K τ) (hown:w.ownsRow 0 τ (U.K τ) t.val l.length xs) (hc:OwL C w X d xs (l.map (C.cel τ)).flatten t.bs):Ow C w X d t.val (.sl τ l) t.all
 |su {τ:Nat} {l:List (U.El τ)} {xs:List Value} (hd:d=false) (t:Tr) (q:Nat) (hk:0<U.K τ) (hq:q<=l.length) (hown:w.ownsRow 0 τ (U.K τ) t.val l.length xs) (hc:OwL C w X d xs (l.map (C.cel τ)).flatten t.bs):Ow C w X d (aYs (U.K τ) t q l.length) (.sl τ (l.drop q)) t.all
inductive OwL (C:Cod U) (w:World) (X:Nat->Prop) (d:Bool):List Value->List (Lf U)->List Nat->Prop
 |n:OwL C w X d [] [] []
 |c {v:Value} {x:Lf U} {B B':List Nat} {vs:List Value} {xs:List (Lf U)} (h:Ow C w X d v x B) (hr:OwL C w X d vs xs B'):OwL C w X d (v::vs) (x::xs) (B++B')
end
variable {C:Cod U}
theorem Tr.root {t:Tr}{b:Nat}(h:t.b=some b):b∈t.all:=by simp[Tr.all,h]
def oH {w w':World}{T k n:Nat}{t:Tr}{xs:List Value}(h:w.ownsRow 0 T k t.val n xs)(e:∀b,t.b=some b->w'.heap[b]? =w.heap[b]?):w'.ownsRow 0 T k t.val n xs:=by
 refine⟨h.1,h.2.imp id ?_⟩;rintro⟨d,cap,cur,c,f,i,j⟩;refine⟨d,cap,cur,c,f,?_,j⟩;rw[e d ?_]
 ·exact i
 ·cases hb:t.b with
  |none=>simp[Tr.val,hb] at c
  |some b=>simp[Tr.val,hb] at c;rw[c.1]
section
variable {w w':World} {X X':Nat->Prop}
mutual
def Ow.conv {d:Bool}(hsz:w.heap.size<=w'.heap.size)(hX:∀b,b<w.heap.size->X' b->X b)(hcell:∀(p:Addr) (u:Value),¬X p.block->w.cell? p=some u->w'.cell? p=some u):
  ∀{v:Value} {x:Lf U} {B:List Nat},Ow C w X d v x B->(∀b∈B,w'.heap[b]? =w.heap[b]?)->Ow C w' X' d v x B
 |_,_,_, .int h1 h2,_=> .int h1 h2
 |_,_,_, .bool,_=> .bool
 |_,_,_, .str h,_=> .str h
 |_,_,_, .fz hd h,_=> .fz hd (h.conv hsz hX hcell (λ_ _ h=>h))
 |_,_,_, .sl t hk hown hc,hh=> .sl t hk (oH hown λb hb=>hh b (Tr.root hb)) (OwL.conv hsz hX hcell hc λb hb=>hh b (by simp[Tr.all,hb]))
 |_,_,_, .su hd t q hk hq hown hc,hh=> .su hd t q hk hq (oH hown λb hb=>hh b (Tr.root hb)) (OwL.conv hsz hX hcell hc λb hb=>hh b (by simp[Tr.all,hb]))
def OwL.conv {d:Bool}(hsz:w.heap.size<=w'.heap.size)(hX:∀b,b<w.heap.size->X' b->X b)(hcell:∀(p:Addr) (u:Value),¬X p.block->w.cell? p=some u->w'.cell? p=some u):
  ∀{vs:List Value} {xs:List (Lf U)} {B:List Nat},OwL C w X d vs xs B->(∀b∈B,w'.heap[b]? =w.heap[b]?)->OwL C w' X' d vs xs B
 |_,_,_, .n,_=> .n
 |_,_,_, .c h hr,hh=> .c (Ow.conv hsz hX hcell h λb hb=>hh b (by simp[hb])) (OwL.conv hsz hX hcell hr λb hb=>hh b (by simp[hb]))
end
mutual
def Ow.soft {d:Bool}:∀{v:Value} {x:Lf U} {B:List Nat},Ow C w X d v x B->Ow C w X false v x B
 |_,_,_, .int h1 h2=> .int h1 h2
 |_,_,_, .bool=> .bool
 |_,_,_, .str h=> .str h
 |_,_,_, .fz hd h=> .fz rfl h
 |_,_,_, .sl t hk hown hc=> .sl t hk hown (OwL.soft hc)
 |_,_,_, .su hd t q hk hq hown hc=> .su rfl t q hk hq hown (OwL.soft hc)
def OwL.soft {d:Bool}:∀{vs:List Value} {xs:List (Lf U)} {B:List Nat},OwL C w X d vs xs B->OwL C w X false vs xs B
 |_,_,_, .n=> .n
 |_,_,_, .c h hr=> .c (Ow.soft h) (OwL.soft hr)
end
def OwL.split {d:Bool}:∀{vs:List Value} {xs ys:List (Lf U)} {B:List Nat},OwL C w X d vs (xs++ys) B->∃b e i f,vs=b++e/\B=i++f/\OwL C w X d b xs i/\OwL C w X d e ys f
 |vs,[],ys,B,h=>⟨[],vs,[],B,rfl,rfl, .n,h⟩
 |_,x::xs,ys,_, .c h hr=>by
  obtain⟨b,e,i,f,rfl,rfl,h1,h2⟩:=OwL.split hr;exact⟨_::b,e,_,f,rfl,by rw[cw], .c h h1,h2⟩
def OwL.app {d:Bool}:∀{b e:List Value} {xs ys:List (Lf U)} {f i:List Nat},OwL C w X d b xs f->OwL C w X d e ys i->OwL C w X d (b++e) (xs++ys) (f++i)
 |_,_,_,_,_,_, .n,h=>h
 |_,_,_,_,_,_, .c h hr,h2=>by rw[cw];exact .c h (OwL.app hr h2)
theorem OwL.len {d:Bool}:∀{vs:List Value} {xs:List (Lf U)} {B:List Nat},OwL C w X d vs xs B->vs.length=xs.length
 |_,_,_, .n=>rfl
 |_,_,_, .c _ hr=>by simp[OwL.len hr]
def Ow.one {d:Bool}{v:Value}{x:Lf U}{B:List Nat}(h:Ow C w X d v x B):v.oneCell'=true:=by
 cases h with
 |int=>rfl
 |bool=>rfl
 |str=>rfl
 |fz _ h=>exact Rd.one h rfl
 |sl=>rfl
 |su=>rfl
def OwL.ones {d:Bool}:∀{vs:List Value} {xs:List (Lf U)} {B:List Nat},OwL C w X d vs xs B->∀v∈vs,v.oneCell'=true
 |_,_,_, .n,v,hv=>by simp at hv
 |_,_,_, .c h hr,v,hv=>by
  rcases bl.1 hv with rfl|hv
  ·exact h.one
  ·exact OwL.ones hr v hv
mutual
def Ow.lt {d:Bool}:∀{v:Value} {x:Lf U} {B:List Nat},Ow C w X d v x B->∀b∈B,b<w.heap.size
 |_,_,_, .int _ _,b,hb=>by simp at hb
 |_,_,_, .bool,b,hb=>by simp at hb
 |_,_,_, .str _,b,hb=>by simp at hb
 |_,_,_, .fz _ _,b,hb=>by simp at hb
 |_,_,_, .sl t hk hown hc,b,hb=>by
  simp only[Tr.all,ce,gv] at hb;rcases hb with hb|hb
  ·have hb:t.b=some b:=hb;rcases hown.2 with⟨h5,_⟩|⟨gg,cap,cur,h5,_,h6,_⟩
   ·simp[Tr.val,hb] at h5
   ·simp[Tr.val,hb] at h5;rw[h5.1];exact(bz.1 h6).1
  ·exact OwL.lt hc b hb
 |_,_,_, .su hd t q hk hq hown hc,b,hb=>by
  simp only[Tr.all,ce,gv] at hb;rcases hb with hb|hb
  ·have hb:t.b=some b:=hb;rcases hown.2 with⟨h5,_⟩|⟨gg,cap,cur,h5,_,h6,_⟩
   ·simp[Tr.val,hb] at h5
   ·simp[Tr.val,hb] at h5;rw[h5.1];exact(bz.1 h6).1
  ·exact OwL.lt hc b hb
def OwL.lt {d:Bool}:∀{vs:List Value} {xs:List (Lf U)} {B:List Nat},OwL C w X d vs xs B->∀b∈B,b<w.heap.size
 |_,_,_, .n,b,hb=>by simp at hb
 |_,_,_, .c h hr,b,hb=>by
  rcases ce.1 hb with hb|hb
  ·exact Ow.lt h b hb
  ·exact OwL.lt hr b hb
end
end
def aKy {α β:Type}{f:α->List β}{k:Nat}(hk:∀x,(f x).length=k):∀{l:List α} {i:Nat} {x:α},l[i]? =some x->∃l1 l2,l=l1++x::l2/\l1.length=i/\(l.map f).flatten=(l1.map f).flatten++(f x++(l2.map f).flatten)/\(l1.map f).flatten.length=i*k
 |[],i,x,h=>by simp at h
 |y::l,0,x,h=>by simp at h;subst h;exact⟨[],l,rfl,rfl,rfl,by simp⟩
 |y::l,i+1,x,h=>by
  obtain⟨l1,l2,h1,h2,b,c⟩:=aKy hk (l:=l) (i:=i) (x:=x) (by simpa using h);refine⟨y::l1,l2,by rw[h1];rfl,by simp[h2],?_,?_⟩
  ·simp only[bw,cM,b,cw]
  ·simp only[bw,cM,az,c,hk];rw[dp];omega
def K3 {α β:Type}{f:α->List β}{k:Nat}(hk:∀x,(f x).length=k):∀{l:List α},(l.map f).flatten.length=l.length*k
 |[]=>by simp
 |y::l=>by simp only[bw,cM,az,K3 hk (l:=l),hk,aw,dp];omega
def sH {w:World}{T k n:Nat}{t:Tr}{xs:List Value}(h:w.ownsRow 0 T k t.val n xs){b:Nat}(hb:t.b=some b){i:Nat}{v:Value}(hv:xs[i]? =some v):w.cell? (Addr.add ⟨b,0,none⟩ i)=some v:=by exact h.cells (g:=b) (by simp[Tr.val,hb,Value.ownBlock]) i v hv
theorem eF {w:World}{T k n:Nat}{t:Tr}{xs:List Value}(h:w.ownsRow 0 T k t.val n xs):(t.b=none/\n=0/\xs=[]/\t.n=0/\t.c=0)\/∃b cur,t.b=some b/\t.n=n/\n<=t.c/\t.c<=maxLen/\w.heap[b]? =some (.cells cur T (0,0))/\cur.size=t.c*k/\cur.toList.take (n*k)=xs:=by
 rcases h.2 with⟨d,e⟩|⟨o,cap,cur,d,_,e,i,j,l,f⟩
 ·left;cases hb:t.b with
  |some b=>simp[Tr.val,hb] at d
  |none=>simp[Tr.val,hb] at d;refine⟨rfl,e,cj ?_,d.1,d.2⟩;rw[h.1,e];simp
 ·right;cases hb:t.b with
  |none=>simp[Tr.val,hb] at d
  |some b=>simp[Tr.val,hb] at d;obtain⟨q1,q2,q3⟩:=d;subst q1;subst q2;subst q3;exact⟨_,cur,rfl,rfl,i,j,e,l,f⟩
theorem Lf.aCB {x:Lf U}(h:x.aBB=true):x.toV.one=true:=by cases x<;>simp_all [Lf.aBB,Lf.toV,V.one]
def bU5 {C:Cod U}{w:World}{Z:Nat->Prop}{τ:Nat}{l:List (U.El τ)}{xs:List Value}(t:Tr)(hown:w.ownsRow 0 τ (U.K τ) t.val l.length xs)(r:∀b∈t.all,¬Z b)
  (c:xs.length=((l.map (C.cel τ)).flatten).length/\∀(i:Nat) (v:Value) (x:Lf U),xs[i]? =some v->((l.map (C.cel τ)).flatten)[i]? =some x->Rd w Z [] v x.toV):Rd w Z [] t.val (.slice (U.K τ) (l.map (U.enc τ))):=by
 have k:=c.1;rcases eF hown with⟨h1,h2,q,n,o⟩|⟨b,cur,h1,h2,q,n,o,B,D⟩
 ·have:l=[]:=cj h2;subst this;simp only[Tr.val,h1,n,o];exact .slice0 (cm _)
 ·simp only[Tr.val,h1,h2,da];cases hl:l with
  |nil=>exact .slice0 (by omega)
  |cons F G=>
   rw[<-hl];have key:∀(i j:Nat) (e:List V) (dd:V),(l.map (U.enc τ))[i]? =some e->e[j]? =some dd->∃u,xs[i*U.K τ+j]? =some u/\Rd w Z [] u dd:=λi j e dd k1 k2=>by
    rw[bq] at k1;cases p:l[i]? with
    |none=>simp[p] at k1
    |some z=>
     simp only[p,da,aj] at k1;subst k1;obtain⟨l1,l2,H,I,y,A⟩:=aKy (C.hlen τ) p;rw[<-C.hcel,bq] at k2;cases h:(C.cel τ z)[j]? with
     |none=>simp[h] at k2
     |some x=>
      simp only[h,da,aj] at k2;subst k2;have d:(l.map (C.cel τ)).flatten[i*U.K τ+j]? =some x:=by rw[y,<-A,ax (dc _ _),cC,aq (bf.1 h).1];exact h
      have f:i*U.K τ+j<xs.length:=by rw[k];exact(bf.1 d).1
      exact⟨_,aa f,c.2 _ _ _ (aa f) d⟩
   refine .slice (val:=λi j=>xs.getD (i*U.K τ+j) undef) (by simp) (by simp[hl]) q n (r b (Tr.root h1)) (bz.1 o).1 (λe he=> ?_) (λi j e dd k1 k2=> ?_) (λi j e dd k1 k2=> ?_)
   ·obtain⟨z,_,rfl⟩:=cz.1 he;rw[<-C.hcel,bn,C.hlen]
   ·obtain⟨u,k3,k4⟩:=key i j e dd k1 k2;rw[sH hown h1 k3];simp[List.getD,k3]
   ·obtain⟨u,k3,k4⟩:=key i j e dd k1 k2;simp only[List.getD,k3,cV];exact k4
mutual
def Ow.rd {w:World}{X Z:Nat->Prop}{d:Bool}(hZ:∀b,Z b->X b):∀{v:Value} {x:Lf U} {B:List Nat},Ow C w X d v x B->(∀b∈B,¬Z b)->Rd w Z [] v x.toV
 |_,_,_, .int h1 h2,_=> .int h1 h2
 |_,_,_, .bool,_=> .bool
 |_,_,_, .str h,_=> .str h
 |_,_,_, .fz hd h,_=>h.conv (ao _) (λb _ hb=>hZ b hb) (λ_ _ _ h=>h) (λ_ _ h=>h)
 |_,_,_, .sl t hk hown hc,hh=>bU5 t hown hh (OwL.rd hZ hc (λb hb=>hh b (by simp[Tr.all,hb])))
 |_,_,_, .su (τ:=τ) (l:=l) hd t q hk hq hown hc,hh=>by
  have h:=bU5 t hown hh (OwL.rd hZ hc (λb hb=>hh b (by simp[Tr.all,hb])));have hn:t.n=l.length:=by rcases eF hown with⟨_,h2,_,h4,_⟩|⟨_,_,_,h2,_⟩<;>omega
  have:=Rd.sub (show Rd w Z [] (.slice (t.b.map λb=>⟨b,0,none⟩) t.n t.c) (.slice (U.K τ) (l.map (U.enc τ))) from h) (a:=q) (b:=l.length) hq (by rw[bn];exact ao _);rw[ex (by rw[bn];exact ao _),<-eN] at this;exact this
def OwL.rd {w:World}{X Z:Nat->Prop}{d:Bool}(hZ:∀b,Z b->X b):∀{vs:List Value} {xs:List (Lf U)} {B:List Nat},OwL C w X d vs xs B->(∀b∈B,¬Z b)->vs.length=xs.length/\∀(i:Nat) (v:Value) (x:Lf U),vs[i]? =some v->xs[i]? =some x->Rd w Z [] v x.toV
 |_,_,_, .n,_=>by simp
 |_,_,_, .c h hr,hh=>by
  have ih:=OwL.rd hZ hr (λb hb=>hh b (by simp[hb]));have h0:=Ow.rd hZ h (λb hb=>hh b (by simp[hb]));refine⟨by simp[ih.1],λi v x h1 h2=> ?_⟩;cases i with
  |zero=>simp at h1 h2;subst h1;subst h2;exact h0
  |succ i=>exact ih.2 i v x (by simpa using h1) (by simpa using h2)
end
end Go.EV
namespace Go.EV
open Go.RowKit Go.VK
variable {U:Uni} {C:Cod U}
def Lf.mean (C:Cod U)(w:World)(X:Nat->Prop)(β:List Tr)(s:Mm U)(v:Value):Lf U->Prop
 | .int kd n=>v= .int kd n/\kd.min<=n/\n<=kd.max
 | .bool b=>v= .bool b
 | .str z=>v= .string z/\z.size<=maxLen
 | .nat a=>∃i f,s.ns[a]? =some (i,f)/\v= .int .i64 (i:Int)/\(i:Int)<=9223372036854775807
 | .lt a m=>∃i f,s.ns[a]? =some (i,f)/\v= .bool (decide ((i:Int)<m))/\m<=9223372036854775807
 | .sl τ l=>Rd w X [] v (.slice (U.K τ) (l.map (U.enc τ)))
 | .nil=>v= .slice none 0 0
 | .own i r=>(r<=s.k/\v.oneCell'=true)/\∃e t,s.o[i]? =some e/\β[i]? =some t/\(e.rv=r->v=t.val)
 | .bor i c τ l=>(c<=s.k/\v.oneCell'=true)/\∃e t,s.o[i]? =some e/\β[i]? =some t/\(e.cv=c->Rd w (λb=>X b/\b∉t.all) [] v (.slice (U.K τ) (l.map (U.enc τ))))
 | .inn i c τ q z j τ' l=>(c<=s.k/\v.oneCell'=true)/\∃e t,s.o[i]? =some e/\β[i]? =some t/\(e.cv=c->∃d L xs,e.ob= .tree τ d L/\0<=q/\L[q.toNat]? =some z/\(C.cel τ z)[j]? =some (.sl τ' l)/\w.ownsRow 0 τ (U.K τ) t.val L.length xs/\xs[q.toNat*U.K τ+j]? =some v)
 | .box i off=>v.oneCell'=true/\∃e t,s.o[i]? =some e/\β[i]? =some t/\(e.ob.aAW=true->∃b,t.b=some b/\v= .pointer (some ⟨b,off,none⟩))
 | .ptr τ z off=>Rd w X [] v (.elem ((U.enc τ z).drop off))
 | .oel i c τ q z off=>(c<=s.k/\v.oneCell'=true)/\∃e t,s.o[i]? =some e/\β[i]? =some t/\(e.cv=c->∃d L b,e.ob= .tree τ d L/\0<=q/\L[q.toNat]? =some z/\t.b=some b/\v= .pointer (some ⟨b,q.toNat*U.K τ+off,none⟩))
 | .oin i c τ q z j τ' l q' z' off=>(c<=s.k/\v.oneCell'=true)/\∃e t,s.o[i]? =some e/\β[i]? =some t/\(e.cv=c->∃L xs h b p u,e.ob= .tree τ true L/\0<=q/\L[q.toNat]? =some z/\(C.cel τ z)[j]? =some (.sl τ' l)/\w.ownsRow 0 τ (U.K τ) t.val L.length xs/\xs[q.toNat*U.K τ+j]? =some h/\h= .slice (some ⟨b,0,none⟩) p u/\0<=q'/\l[q'.toNat]? =some z'/\v= .pointer (some ⟨b,q'.toNat*U.K τ'+off,none⟩))
 | .suf i c τ q l=>(c<=s.k/\v.oneCell'=true)/\∃e t,s.o[i]? =some e/\β[i]? =some t/\(e.cv=c->∃d,e.ob= .tree τ d l/\0<=q/\q.toNat<=l.length/\v=aYs (U.K τ) t q.toNat l.length)
 | .und=>v=undef
 | .any=>True
def Ms (C:Cod U)(w:World)(X:Nat->Prop)(β:List Tr)(s:Mm U)(vs:List Value)(cs:List (Lf U)):Prop:=
 vs.length=cs.length/\∀(i:Nat) (v:Value) (c:Lf U),vs[i]? =some v->cs[i]? =some c->c.mean C w X β s v
def Mp (C:Cod U)(w:World)(X:Nat->Prop)(β:List Tr)(s:Mm U)(v:Value):Bool×List (Lf U)->Prop
 |(false,cs)=>∃c,cs=[c]/\c.mean C w X β s v
 |(true,cs)=>∃vs:List Value,v= .agg vs.toArray/\Ms C w X β s vs cs
def Sv.mean (C:Cod U)(w:World)(X:Nat->Prop)(β:List Tr)(s:Mm U)(v:Value):Sv U->Prop
 | .l x=>x.mean C w X β s v
 | .a cs=>∃vs:List Value,v= .agg vs.toArray/\Ms C w X β s vs cs
 | .t xs=>∃vs:List Value,v= .tuple vs.toArray/\vs.length=xs.length/\∀(i:Nat) (v:Value) (x:Bool×List (Lf U)),vs[i]? =some v->xs[i]? =some x->Mp C w X β s v x
def Lf.bd (N M K:Nat):Lf U->Prop
 | .own i r=>i<N/\r<=K
 | .bor i c _ _=>i<N/\c<=K
 | .inn i c _ _ _ _ _ _=>i<N/\c<=K
 | .box i _=>i<N
 | .oel i c _ _ _ _=>i<N/\c<=K
 | .oin i c _ _ _ _ _ _ _ _ _=>i<N/\c<=K
 | .suf i c _ _ _=>i<N/\c<=K
 | .nat a=>a<M
 | .lt a _=>a<M
 |_=>True
def Sv.bd (N M K:Nat):Sv U->Prop
 | .l x=>x.bd N M K
 | .a cs=>∀c∈cs,c.bd N M K
 | .t xs=>∀x∈xs,∀c∈x.2,c.bd N M K
structure Evo (w w':World) (X X':Nat->Prop) (β β':List Tr) (s s':Mm U) (N M K:Nat):Prop where
 sz:w.heap.size<=w'.heap.size
 hX:∀b,b<w.heap.size->X' b->X b
 hc:∀(p:Addr) (u:Value),¬X p.block->w.cell? p=some u->w'.cell? p=some u
 hk:K<=s'.k
 hn:∀(a i:Nat) (f:Bool),a<M->s.ns[a]? =some (i,f)->∃f',s'.ns[a]? =some (i,f')
 ho:∀(i:Nat) (e:EO U) (t:Tr),i<N->s.o[i]? =some e->β[i]? =some t->∃e' t',s'.o[i]? =some e'/\β'[i]? =some t'/\(e'.rv<=K->e'.rv=e.rv/\t'.val=t.val)/\
  (e'.cv<=K->e'.cv=e.cv/\e'.ob=e.ob/\t'=t/\∀b∈t.all,w'.heap[b]? =w.heap[b]?)/\(e'.ob.aAW=true->e.ob.aAW=true/\t'.b=t.b)
section
variable {w w':World} {X X':Nat->Prop} {β β':List Tr} {s s':Mm U} {N M K:Nat}
theorem lt_of_some {α:Type}{l:List α}{i:Nat}{x:α}(h:l[i]? =some x):i<l.length:=(bf.1 h).1
def Lf.aBD {v:Value}{x:Lf U}(hm:x.mean C w X β s v):x.bd s.o.length s.ns.length s.k:=by
 cases x with
 |own i r=>obtain⟨h1,e,t,h2,_⟩:=hm;exact⟨lt_of_some h2,h1.1⟩
 |bor i c τ l=>obtain⟨h1,e,t,h2,_⟩:=hm;exact⟨lt_of_some h2,h1.1⟩
 |inn i c τ q z j τ' l=>obtain⟨h1,e,t,h2,_⟩:=hm;exact⟨lt_of_some h2,h1.1⟩
 |oel i c τ q z off=>obtain⟨h1,e,t,h2,_⟩:=hm;exact⟨lt_of_some h2,h1.1⟩
 |oin i c τ q z j τ' l q' z' off=>obtain⟨h1,e,t,h2,_⟩:=hm;exact⟨lt_of_some h2,h1.1⟩
 |suf i c τ q l=>obtain⟨h1,e,t,h2,_⟩:=hm;exact⟨lt_of_some h2,h1.1⟩
 |box i off=>obtain⟨_,e,t,h2,_⟩:=hm;exact lt_of_some h2
 |nat a=>obtain⟨i,f,h2,_⟩:=hm;exact lt_of_some h2
 |lt a m=>obtain⟨i,f,h2,_⟩:=hm;exact lt_of_some h2
 |_=>trivial
theorem Ms.bd {vs:List Value}{cs:List (Lf U)}(hm:Ms C w X β s vs cs):∀c∈cs,c.bd s.o.length s.ns.length s.k:=λc hc=>by
 obtain⟨i,hi⟩:=cQ.1 hc;have hl:i<vs.length:=by rw[hm.1];exact lt_of_some hi
 exact Lf.aBD (hm.2 i _ c (aa hl) hi)
def Sv.aBD {v:Value}{x:Sv U}(hm:x.mean C w X β s v):x.bd s.o.length s.ns.length s.k:=by
 cases x with
 |l x=>exact Lf.aBD hm
 |a cs=>obtain⟨vs,_,h⟩:=hm;exact h.bd
 |t xs=>
  obtain⟨vs,_,h2,d⟩:=hm;intro x e c hc;obtain⟨i,hi⟩:=cQ.1 e;have hl:i<vs.length:=by rw[h2];exact lt_of_some hi
  have:=d i _ x (aa hl) hi;obtain⟨b,cs⟩:=x;cases b with
  |false=>obtain⟨f,rfl,h⟩:=this;simp at hc;subst hc;exact Lf.aBD h
  |true=>obtain⟨vs,_,h⟩:=this;exact h.bd c hc
def Lf.aAY (h:Evo w w' X X' β β' s s' N M K){v:Value}{x:Lf U}(hb:x.bd N M K)(hm:x.mean C w X β s v):x.mean C w' X' β' s' v:=by
 cases x with
 |int=>exact hm
 |bool=>exact hm
 |str=>exact hm
 |nil=>exact hm
 |nat a=>obtain⟨i,f,h1,h2⟩:=hm;obtain⟨f',k⟩:=h.hn a i f hb h1;exact⟨i,f',k,h2⟩
 |lt a m=>obtain⟨i,f,h1,h2⟩:=hm;obtain⟨f',k⟩:=h.hn a i f hb h1;exact⟨i,f',k,h2⟩
 |und=>exact hm
 |any=>trivial
 |sl τ l=>exact Rd.conv hm h.sz h.hX h.hc (λ_ _ h=>h)
 |ptr τ z off=>exact Rd.conv hm h.sz h.hX h.hc (λ_ _ h=>h)
 |own i r=>obtain⟨h1,e,t,h2,k,n⟩:=hm;obtain⟨e',t',o,y,A,_⟩:=h.ho i e t hb.1 h2 k;refine⟨⟨bo hb.2 h.hk,h1.2⟩,e',t',o,y,λhr=> ?_⟩;obtain⟨q1,q2⟩:=A (hr▸hb.2);rw[q2];exact n (q1.symm.trans hr)
 |bor i c τ l=>
  obtain⟨h1,e,t,h2,k,n⟩:=hm;obtain⟨e',t',o,y,_,A,_⟩:=h.ho i e t hb.1 h2 k;refine⟨⟨bo hb.2 h.hk,h1.2⟩,e',t',o,y,λhr=> ?_⟩;obtain⟨q1,_,q3,q4⟩:=A (hr▸hb.2);subst q3;refine(n (q1.symm.trans hr)).conv h.sz (λb hb ⟨k1,k2⟩=>⟨h.hX b hb k1,k2⟩) (λp u hp hc=> ?_) (λ_ _ h=>h);by_cases J:X p.block
  ·have:p.block∈t'.all:=Classical.byContradiction λhn=>hp ⟨J,hn⟩;rw[World.cell?_of_block (q4 _ this)];exact hc
  ·exact h.hc p u J hc
 |inn i c τ q z j τ' l=>obtain⟨h1,e,t,h2,k,n⟩:=hm;obtain⟨e',t',o,y,_,A,_⟩:=h.ho i e t hb.1 h2 k;refine⟨⟨bo hb.2 h.hk,h1.2⟩,e',t',o,y,λhr=> ?_⟩;obtain⟨q1,q2,q3,q4⟩:=A (hr▸hb.2);subst q3;obtain⟨d,L,xs,B,D,F,G,H,I⟩:=n (q1.symm.trans hr);exact⟨d,L,xs,q2.trans B,D,F,G,oH H (λb hb=>q4 b (Tr.root hb)),I⟩
 |box i off=>obtain⟨h1,e,t,h2,k,n⟩:=hm;obtain⟨e',t',o,y,_,_,A⟩:=h.ho i e t hb h2 k;refine⟨h1,e',t',o,y,λhr=> ?_⟩;obtain⟨q1,q2⟩:=A hr;rw[q2];exact n q1
 |oel i c τ q z off=>obtain⟨h1,e,t,h2,k,n⟩:=hm;obtain⟨e',t',o,y,_,A,_⟩:=h.ho i e t hb.1 h2 k;refine⟨⟨bo hb.2 h.hk,h1.2⟩,e',t',o,y,λhr=> ?_⟩;obtain⟨q1,q2,q3,q4⟩:=A (hr▸hb.2);subst q3;obtain⟨d,L,b,B,D⟩:=n (q1.symm.trans hr);exact⟨d,L,b,q2.trans B,D⟩
 |suf i c τ q l=>obtain⟨h1,e,t,h2,k,n⟩:=hm;obtain⟨e',t',o,y,_,A,_⟩:=h.ho i e t hb.1 h2 k;refine⟨⟨bo hb.2 h.hk,h1.2⟩,e',t',o,y,λhr=> ?_⟩;obtain⟨q1,q2,q3,q4⟩:=A (hr▸hb.2);subst q3;obtain⟨d,B,D⟩:=n (q1.symm.trans hr);exact⟨d,q2.trans B,D⟩
 |oin i c τ q z j τ' l q' z' off=>obtain⟨h1,e,t,h2,k,n⟩:=hm;obtain⟨e',t',o,y,_,A,_⟩:=h.ho i e t hb.1 h2 k;refine⟨⟨bo hb.2 h.hk,h1.2⟩,e',t',o,y,λhr=> ?_⟩;obtain⟨q1,q2,q3,q4⟩:=A (hr▸hb.2);subst q3;obtain⟨L,xs,O,b,Q,R,B,D,F,G,H,I⟩:=n (q1.symm.trans hr);exact⟨L,xs,O,b,Q,R,q2.trans B,D,F,G,oH H (λb hb=>q4 b (Tr.root hb)),I⟩
def Ms.evo (h:Evo w w' X X' β β' s s' N M K){vs:List Value}{cs:List (Lf U)}(hb:∀c∈cs,c.bd N M K)(hm:Ms C w X β s vs cs):Ms C w' X' β' s' vs cs:=
 ⟨hm.1,λi v c h1 h2=>Lf.aAY h (hb c (ba h2)) (hm.2 i v c h1 h2)⟩
def Mp.evo (h:Evo w w' X X' β β' s s' N M K){v:Value}{x:Bool×List (Lf U)}(hb:∀c∈x.2,c.bd N M K)(hm:Mp C w X β s v x):Mp C w' X' β' s' v x:=by
 obtain⟨b,cs⟩:=x;cases b with
 |false=>obtain⟨c,rfl,h2⟩:=hm;exact⟨c,rfl,Lf.aAY h (hb c (by simp)) h2⟩
 |true=>obtain⟨vs,h1,h2⟩:=hm;exact⟨vs,h1,h2.evo h hb⟩
def Sv.aAY (h:Evo w w' X X' β β' s s' N M K){v:Value}{x:Sv U}(hb:x.bd N M K)(hm:x.mean C w X β s v):x.mean C w' X' β' s' v:=by
 cases x with
 |l x=>exact Lf.aAY h hb hm
 |a cs=>obtain⟨vs,h1,h2⟩:=hm;exact⟨vs,h1,h2.evo h hb⟩
 |t xs=>obtain⟨vs,h1,h2,c⟩:=hm;exact⟨vs,h1,h2,λi v x a b=>(c i v x a b).evo h (hb x (ba b))⟩
def Sv.aAV (h:Evo w w' X X' β β' s s' s.o.length s.ns.length s.k){v:Value}{x:Sv U}(hm:x.mean C w X β s v):x.mean C w' X' β' s' v:=Sv.aAY h (Sv.aBD hm) hm
def Lf.aAV (h:Evo w w' X X' β β' s s' s.o.length s.ns.length s.k){v:Value}{x:Lf U}(hm:x.mean C w X β s v):x.mean C w' X' β' s' v:=Lf.aAY h (Lf.aBD hm) hm
def Ms.go (h:Evo w w' X X' β β' s s' s.o.length s.ns.length s.k){vs:List Value}{cs:List (Lf U)}(hm:Ms C w X β s vs cs):Ms C w' X' β' s' vs cs:=Ms.evo h hm.bd hm
end
structure Bel (Y:Nat->Prop) (w w':World):Prop where
 os:w'.os=w.os
 tape:w'.tape=w.tape
 output:w'.output=w.output
 size:w.heap.size<=w'.heap.size
 block:∀b,b<w.heap.size->¬Y b->w'.heap[b]? =w.heap[b]?
def Bel.refl {Y:Nat->Prop}(w:World):Bel Y w w:=⟨rfl,rfl,rfl,ao _,λ_ _ _=>rfl⟩
theorem Bel.trans {Y:Nat->Prop}{a b c:World}(h:Bel Y a b)(k:Bel Y b c):Bel Y a c:=
 ⟨k.os.trans h.os,k.tape.trans h.tape,k.output.trans h.output,bo h.size k.size,λi hi d=>(k.block i (ca hi h.size) d).trans (h.block i hi d)⟩
def Bel.aBJ {w w':World}(h:Ext w w'){Y:Nat->Prop}:Bel Y w w':=⟨h.os,h.tape,h.output,h.size,λb hb _=>h.block b hb⟩
def Bel.ext {w w':World}{Y:Nat->Prop}(h:Bel Y w w')(c:∀b,¬Y b):Ext w w':=⟨h.os,h.tape,h.output,h.size,λb hb=>h.block b hb (c b)⟩
structure Env (U:Uni) (g:GI) where
 X0:Nat->Prop
 Y0:Nat->Prop
 w0:World
 /--Blocks that were made ahead of their step:nobody touches them. -/
 prm:List (Nat×Obj)
 /--Moments to which one looks back:as long as nothing has turned that was there,all of it stays. -/
 fr:List (World×Nat×Nat)
 h0:∀b,X0 b->b<w0.heap.size\/∃x∈prm,x.1=b
 hY:∀b,Y0 b->b<w0.heap.size
 hXY:∀b,X0 b->¬Y0 b
 hg:∀w,Bel Y0 w0 w->g.G w
 pin:List (Sv U×Value)
variable {g:GI}
def Env.X (E:Env U g)(β:List Tr)(b:Nat):Prop:=E.X0 b\/E.Y0 b\/∃t∈β,b∈t.all
def Ob.ok (C:Cod U)(w:World)(X:Nat->Prop)(β:List Tr)(s:Mm U)(t:Tr):Ob U->Prop
 | .dead=>True
 | .box T cs c=>cs.length=c.length/\∃b vs,t.b=some b/\t.bs=[]/\w.heap[b]? =some (.cells vs.toArray T (0,0))/\Ms C w X β s vs cs
 | .tree τ d l=>0<U.K τ/\∃xs,w.ownsRow 0 τ (U.K τ) t.val l.length xs/\OwL C w X d xs (l.map (C.cel τ)).flatten t.bs
structure Hp (C:Cod U) (E:Env U g) (s:Mm U) (β:List Tr) (w:World):Prop where
 ext:Bel E.Y0 E.w0 w
 len:β.length=s.o.length
 vers:∀(i:Nat) (e:EO U),s.o[i]? =some e->e.rv<=s.k/\e.cv<=s.k
 cnt:∀(a i:Nat),s.ns[a]? =some (i,true)->(i:Int)+1<=9223372036854775807
 new:∀(i:Nat) (t:Tr) (b:Nat),β[i]? =some t->b∈t.all->(E.w0.heap.size<=b\/E.Y0 b)/\b<w.heap.size
 dist:∀(i j:Nat) (t u:Tr) (b:Nat),i≠j->β[i]? =some t->β[j]? =some u->b∈t.all->b∉u.all
 nd:∀(i:Nat) (t:Tr),β[i]? =some t->t.all.Nodup
 ok:∀(i:Nat) (t:Tr) (e:EO U),β[i]? =some t->s.o[i]? =some e->e.ob.ok C w (E.X β) β s t
 pin:∀x∈E.pin,x.1.mean C w (E.X β) β s x.2
 prm:∀x∈E.prm,E.w0.heap.size<=x.1/\w.heap[x.1]? =some x.2/\(∀f∈E.fr,f.1.heap.size<=x.1)/\∀(i:Nat) (t:Tr),β[i]? =some t->x.1∉t.all
 fr:∀f∈E.fr,f.2.1<=s.o.length/\f.2.2<=s.k/\f.1.heap.size<=w.heap.size/\((∃(j:Nat) (e:EO U),j<f.2.1/\s.o[j]? =some e/\f.2.2<e.cv)\/(Ext f.1 w/\∀(i:Nat) (t:Tr) (b:Nat),f.2.1<=i->β[i]? =some t->b∈t.all->f.1.heap.size<=b))
section
variable {E:Env U g} {s s':Mm U} {β β':List Tr} {w w':World}
def Hp.gw (H:Hp C E s β w):g.G w:=E.hg w H.ext
def Hp.aBZ (H:Hp C E s β w)(b:Nat)(h:E.X β b):b<w.heap.size:=by
 rcases h with h|h|⟨t,ht,hb⟩
 ·rcases E.h0 b h with h|⟨x,c,rfl⟩
  ·exact ca h H.ext.size
  ·exact(bz.1 (H.prm x c).2.1).1
 ·exact ca (E.hY b h) H.ext.size
 ·obtain⟨i,hi⟩:=cQ.1 ht;exact(H.new i t b hi hb).2
def Hp.tr (H:Hp C E s β w){i:Nat}{e:EO U}(h:s.o[i]? =some e):∃t,β[i]? =some t:=
 ⟨_,aa (by rw[H.len];exact(bf.1 h).1)⟩
def Ob.aBE {X X':Nat->Prop}(h:Evo w w' X X' β β' s s' s.o.length s.ns.length s.k){t:Tr}{x:Ob U}(c:x.ok C w X β s t)(e:∀b∈t.all,w'.heap[b]? =w.heap[b]?):x.ok C w' X' β' s' t:=by
 cases x with
 |dead=>trivial
 |box T cs j=>obtain⟨h0,b,vs,h1,h2,f,i⟩:=c;exact⟨h0,b,vs,h1,h2,by rw[e b (Tr.root h1)];exact f,i.go h⟩
 |tree τ d l=>obtain⟨h1,xs,h2,f⟩:=c;exact⟨h1,xs,oH h2 (λb hb=>e b (Tr.root hb)),f.conv h.sz h.hX h.hc (λb hb=>e b (by simp[Tr.all,hb]))⟩
def Hp.step (H:Hp C E s β w)(I D:Nat->Prop)(hk:s.k<=s'.k)(hn:∀(a i:Nat) (f:Bool),s.ns[a]? =some (i,f)->∃f',s'.ns[a]? =some (i,f'))(S:∀(a i:Nat),s'.ns[a]? =some (i,true)->(i:Int)+1<=9223372036854775807)(hlen:β'.length=s'.o.length)(hge:s.o.length<=s'.o.length)(hsz:w.heap.size<=w'.heap.size)(T:w'.os=w.os)(A:w'.tape=w.tape)(J:w'.output=w.output)
  (n:∀b,b<w.heap.size->¬D b->w'.heap[b]? =w.heap[b]?) (V:∀b,D b->∃i t,I i/\β[i]? =some t/\b∈t.all)
  (c:∀i,¬I i->i<s.o.length->s'.o[i]? =s.o[i]? /\β'[i]? =β[i]?)
  (y:∀(j:Nat) (t:Tr) (b:Nat),(I j\/s.o.length<=j)->β'[j]? =some t->b∈t.all->b<w'.heap.size/\(w.heap.size<=b\/∃i u,I i/\β[i]? =some u/\b∈u.all))
  (L:∀(i j:Nat) (t u:Tr) (b:Nat),(I i\/s.o.length<=i)->(I j\/s.o.length<=j)->i≠j->β'[i]? =some t->β'[j]? =some u->b∈t.all->b∉u.all)
  (hnd:∀(j:Nat) (t:Tr),(I j\/s.o.length<=j)->β'[j]? =some t->t.all.Nodup)
  (W:∀(j:Nat) (e:EO U),(I j\/s.o.length<=j)->s'.o[j]? =some e->e.rv<=s'.k/\e.cv<=s'.k)
  (hI:∀(i:Nat) (e e':EO U) (t t':Tr),I i->s.o[i]? =some e->s'.o[i]? =some e'->β[i]? =some t->β'[i]? =some t'->(e'.rv<=s.k->e'.rv=e.rv/\t'.val=t.val)/\s.k<e'.cv/\(e'.ob.aAW=true->e.ob.aAW=true/\t'.b=t.b))
  (hok:Evo w w' (E.X β) (E.X β') β β' s s' s.o.length s.ns.length s.k->∀(j:Nat) (t:Tr) (e:EO U),(I j\/s.o.length<=j)->β'[j]? =some t->s'.o[j]? =some e->e.ob.ok C w' (E.X β') β' s' t):
  Hp C E s' β' w'/\Evo w w' (E.X β) (E.X β') β β' s s' s.o.length s.ns.length s.k:=by
 have d:∀j,(I j\/s.o.length<=j)\/(¬I j/\j<s.o.length):=λj=>by
  by_cases h:I j
  ·exact .inl (.inl h)
  ·by_cases h2:s.o.length<=j
   ·exact .inl (.inr h2)
   ·exact .inr ⟨h,by omega⟩
 have hX:∀b,b<w.heap.size->E.X β' b->E.X β b:=by
  rintro b hb (h|h|⟨t,ht,G⟩)
  ·exact .inl h
  ·exact .inr (.inl h)
  ·obtain⟨j,r⟩:=cQ.1 ht;rcases d j with hc|⟨hn,hl⟩
   ·rcases(y j t b hc r G).2 with h|⟨i,u,_,v,l⟩
    ·omega
    ·exact .inr (.inr ⟨u,ba v,l⟩)
   ·rw[(c j hn hl).2] at r;exact .inr (.inr ⟨t,ba r,G⟩)
 have hDX:∀b,D b->E.X β b:=λb hb=>by
  obtain⟨i,t,_,h2,O⟩:=V b hb;exact .inr (.inr ⟨t,ba h2,O⟩)
 have B:∀(i:Nat) (t:Tr),¬I i->β[i]? =some t->∀b∈t.all,w'.heap[b]? =w.heap[b]? :=λi t hi ht b hb=>
  n b (H.new i t b ht hb).2 (λhd=>by
   obtain⟨j,u,r,v,l⟩:=V b hd;exact H.dist i j t u b (λe=>hi (e▸r)) ht v hb l)
 have z:Evo w w' (E.X β) (E.X β') β β' s s' s.o.length s.ns.length s.k:=by
  refine⟨hsz,hX,λp u hp hc=> ?_,hk,λa i f _ h=>hn a i f h,λi e t _ he ht=> ?_⟩
  ·have Q:=World.block_lt_of_cell? w p hc;rw[World.cell?_of_block (n p.block Q (λhd=>hp (hDX _ hd)))];exact hc
  ·have R:i<s.o.length:=(bf.1 he).1;by_cases hi:I i
   ·have h1:s'.o[i]? =some (s'.o[i]'(by omega)):=aa _;have h2:β'[i]? =some (β'[i]'(by omega)):=aa _;obtain⟨q1,q2,q3⟩:=hI i e _ t _ hi he h1 ht h2;exact⟨_,_,h1,h2,q1,λhc=>absurd hc (by omega),q3⟩
   ·obtain⟨h1,h2⟩:=c i hi R;exact⟨e,t,h1.trans he,h2.trans ht,λ_=>⟨rfl,rfl⟩,λ_=>⟨rfl,rfl,rfl,B i t hi ht⟩,λh=>⟨h,rfl⟩⟩
 refine⟨⟨?_,hlen,?_,S,?_,?_,?_,?_,λx Z=>Sv.aAV z (H.pin x Z),λx Z=> ?_,λf hf=> ?_⟩,z⟩
 ·refine⟨T.trans H.ext.os,A.trans H.ext.tape,J.trans H.ext.output,bo H.ext.size hsz,λb hb hy=> ?_⟩;rw[n b (ca hb H.ext.size) (λhd=>by
   obtain⟨i,t,_,h2,O⟩:=V b hd;rcases(H.new i t b h2 O).1 with h|h
   ·omega
   ·exact hy h)]
  exact H.ext.block b hb hy
 ·intro j e he;rcases d j with hc|⟨hn,hl⟩
  ·exact W j e hc he
  ·rw[(c j hn hl).1] at he;have:=H.vers j e he;omega
 ·intro j t b ht hb;rcases d j with hc|⟨hn,hl⟩
  ·obtain⟨h1,h2⟩:=y j t b hc ht hb;refine⟨?_,h1⟩;rcases h2 with h|⟨i,u,_,v,l⟩
   ·have:=H.ext.size;exact .inl (by omega)
   ·exact(H.new i u b v l).1
  ·rw[(c j hn hl).2] at ht;have:=H.new j t b ht hb;exact⟨this.1,by omega⟩
 ·intro i j t u b F ht v hb l;have aux:∀(i j:Nat) (t u:Tr),i≠j->(I i\/s.o.length<=i)->(¬I j/\j<s.o.length)->β'[i]? =some t->β[j]? =some u->b∈t.all->b∈u.all->False:=by
   intro i j t u F hi r ht v hb l;rcases(y i t b hi ht hb).2 with h|⟨q,x,hq,Z,hxb⟩
   ·have:=(H.new j u b v l).2;omega
   ·exact H.dist q j x u b (λe=>r.1 (e▸hq)) Z v hxb l
  rcases d i with hi|hi<;>rcases d j with r|r
  ·exact L i j t u b hi r F ht v hb l
  ·rw[(c j r.1 r.2).2] at v;exact aux i j t u F hi r ht v hb l
  ·rw[(c i hi.1 hi.2).2] at ht;exact aux j i u t (Ne.symm F) r hi v ht l hb
  ·rw[(c i hi.1 hi.2).2] at ht;rw[(c j r.1 r.2).2] at v;exact H.dist i j t u b F ht v hb l
 ·intro j t ht;rcases d j with hc|⟨hn,hl⟩
  ·exact hnd j t hc ht
  ·rw[(c j hn hl).2] at ht;exact H.nd j t ht
 ·intro j t e ht he;rcases d j with hc|⟨hn,hl⟩
  ·exact hok z j t e hc ht he
  ·obtain⟨h1,h2⟩:=c j hn hl;rw[h1] at he;rw[h2] at ht;exact Ob.aBE z (H.ok j t e ht he) (B j t hn ht)
 ·obtain⟨h1,h2,O,h4⟩:=H.prm x Z;have Q:x.1<w.heap.size:=(bz.1 h2).1;refine⟨h1,(n x.1 Q λhd=> ?_).trans h2,O,λj t ht hb=> ?_⟩
  ·obtain⟨i,u,_,v,l⟩:=V _ hd;exact h4 i u v l
  ·rcases d j with hc|⟨hn,hl⟩
   ·rcases(y j t _ hc ht hb).2 with h|⟨i,u,_,v,l⟩
    ·omega
    ·exact h4 i u v l
   ·rw[(c j hn hl).2] at ht;exact h4 j t ht hb
 ·obtain⟨h1,h2,h0,O⟩:=H.fr f hf;refine⟨bo h1 hge,bo h2 hk,bo h0 hsz,?_⟩;have turned:∀i,I i->i<f.2.1->∃(j:Nat) (e:EO U),j<f.2.1/\s'.o[j]? =some e/\f.2.2<e.cv:=λi hi hl=>by
   have R:i<s.o.length:=ca hl h1;have g1:s.o[i]? =some s.o[i]:=aa R;have g2:s'.o[i]? =some (s'.o[i]'(by omega)):=aa _;obtain⟨t,g3⟩:=H.tr g1;have g4:β'[i]? =some (β'[i]'(by omega)):=aa _;have:=(hI i _ _ t _ hi g1 g2 g3 g4).2.1;exact⟨i,_,hl,g2,by omega⟩
  rcases O with⟨j,e,q1,q2,q3⟩|⟨q1,q2⟩
  ·by_cases r:I j
   ·exact .inl (turned j r q1)
   ·exact .inl ⟨j,e,q1,by rw[(c j r (lt_of_some q2)).1];exact q2,q3⟩
  ·by_cases hex:∃i,I i/\i<f.2.1
   ·obtain⟨i,hi,hl⟩:=hex;exact .inl (turned i hi hl)
   ·have hno:∀i,I i->f.2.1<=i:=λi hi=>Nat.le_of_not_lt λhl=>hex ⟨i,hi,hl⟩;refine .inr ⟨⟨T.trans q1.os,A.trans q1.tape,J.trans q1.output,bo q1.size hsz,λb hb=> ?_⟩,λj t b r ht hb=> ?_⟩
    ·rw[n b (ca hb q1.size) (λhd=>by
      obtain⟨i,t,hi,ht,G⟩:=V b hd;have:=q2 i t b (hno i hi) ht G;omega)]
     exact q1.block b hb
    ·rcases d j with hc|⟨hn,hl⟩
     ·rcases(y j t b hc ht hb).2 with h|⟨i,u,hi,v,l⟩
      ·exact bo q1.size h
      ·exact q2 i u b (hno i hi) v l
     ·rw[(c j hn hl).2] at ht;exact q2 j t b r ht hb
end
end Go.EV
namespace Go.EV
open Go.RowKit Go.VK
noncomputable section
def nth {α:Type}(l:List α):Nat->Option α:=List.rec (motive:=λ_=>Nat->Option α) (λ_=>none) (λx _ b n=>Nat.rec (motive:=λ_=>Option α) (some x) (λm _=>b m) n) l
def upd {α:Type}(l:List α):Nat->α->List α:=List.rec (motive:=λ_=>Nat->α->List α) (λ_ _=>[]) (λx t b n y=>Nat.rec (motive:=λ_=>List α) (y::t) (λm _=>x::b m y) n) l
def drp {α:Type}(l:List α):Nat->List α:=List.rec (motive:=λ_=>Nat->List α) (λ_=>[]) (λx t b n=>Nat.rec (motive:=λ_=>List α) (x::t) (λm _=>b m) n) l
def tk {α:Type}(l:List α):Nat->List α:=List.rec (motive:=λ_=>Nat->List α) (λ_=>[]) (λx _ b n=>Nat.rec (motive:=λ_=>List α) [] (λm _=>x::b m) n) l
def len {α:Type}(l:List α):Nat:=List.rec (motive:=λ_=>Nat) 0 (λ_ _ b=>Nat.succ b) l
def kG {α:Type}(l:List (Nat×α))(n:Nat):Option α:=List.rec (motive:=λ_=>Option α) none (λx _ b=>cond (Nat.beq x.1 n) (some x.2) b) l
inductive Kz where
 |int (k:IntKind)
 |bool
 |str
 |nil
def Kz.v:Kz->V
 | .int k=> .int k 0
 | .bool=> .bool false
 | .str=> .str ⟨#[]⟩
 | .nil=> .nil
inductive UT where
 |int (k:IntKind)
 |bool
 |str
 |sl (e ek eb:Nat)
 |st (fs:List (Nat×Nat×Nat))
structure TInfo where
 u:UT
 k:Nat
 z:List Kz
inductive Kd where
 |int (k:IntKind)
 |bool
 |str
 |sl (τ:Nat)
 |st (T:Nat)
variable {U:Uni}
def Kz.lf:Kz->Lf U
 | .int k=> .int k (0:Int)
 | .bool=> .bool false
 | .str=> .str (⟨#[]⟩:ByteArray)
 | .nil=> .nil
def Kd.ty (U:Uni):Kd->Type
 | .int _=>Int
 | .bool=>Bool
 | .str=>ByteArray
 | .sl τ=>List (U.El τ)
 | .st T=>U.El T
def fM (U:Uni):List Kd->Type
 |[]=>Unit
 |[k]=>k.ty U
 |k::b::ks=>k.ty U×fM U (b::ks)
structure Sum (U:Uni) where
 ar:List Kd
 rs:List Kd
 fr:Bool
 wt:Bool
 m:fM U ar->Option (fM U rs)
def slq (τ τ':Nat)(l:List (U.El τ')):Option (List (U.El τ)):=if h:τ'=τ then some (h▸l) else none
def okv (m:Mm U)(i c:Nat):Bool:=match nth m.o i with
 |some e=>Nat.beq e.cv c
 |none=>false
def rsv (ns:List (Nat×Bool)):Lf U->Lf U
 | .nat a=>match nth ns a with|some (i,_)=> .int .i64 (i:Int)|none=> .any
 | .lt a m=>match nth ns a with|some (i,_)=> .bool (decide ((i:Int)<m))|none=> .any
 |x=>x
def uQ (m:Mm U):Lf U->Option (Lf U)
 | .int k n=>some (.int k n)
 | .bool b=>some (.bool b)
 | .str s=>some (.str s)
 | .sl τ l=>some (.sl τ l)
 | .nat a=>match nth m.ns a with|some (i,_)=>some (.int .i64 (i:Int))|none=>none
 | .lt a n=>match nth m.ns a with|some (i,_)=>some (.bool (decide ((i:Int)<n)))|none=>none
 | .own i r=>match nth m.o i with
  |some ⟨.tree τ _ l,rv,_⟩=>bif Nat.beq rv r then some (.sl τ l) else none
  |_=>none
 | .bor i c τ l=>bif okv m i c then some (.sl τ l) else none
 | .inn i c _ _ _ _ τ' l=>bif okv m i c then some (.sl τ' l) else none
 |_=>none
def rdn (m:Mm U)(kd:Kd):Lf U->Option (Lf U)
 | .nil=>match kd with| .sl τ=>some (.sl τ [])|_=>none
 |x=>uQ m x
def rds (m:Mm U):List Kd->List (Lf U)->Option (List (Lf U))
 |[],[]=>some []
 |kd::ks,x::xs=>match rdn m kd x with
  |some y=>match rds m ks xs with
   |some ys=>some (y::ys)
   |none=>none
  |none=>none
 |_,_=>none
def bEf:(kd:Kd)->Lf U->Option (kd.ty U)
 | .int k, .int c n=>if c=k then some n else none
 | .bool, .bool b=>some b
 | .str, .str s=>some s
 | .sl τ, .sl τ' l=>slq τ τ' l
 |_,_=>none
def Cur (U:Uni)(β:Type):List Kd->Type
 |[]=>β
 |k::ks=>k.ty U->Cur U β ks
def fQ {β:Type}:(ks:List Kd)->Cur U β ks->List (Lf U)->Option β
 |[],x,[]=>some x
 |k::ks,f,c::cs=>match bEf k c with
  |some a=>fQ ks (f a) cs
  |none=>none
 |_,_,_=>none
structure Lay (U:Uni) where
 C:Cod U
 kd:Nat->List Kd
 bt:Nat
 be:Int->U.El bt
 bi:U.El bt->Int
 hb:∀x,C.cel bt x=[.int .u8 (bi x)]
 hbe:∀n,bi (be n)=n
def bS2 (ns:List Int):ByteArray:=ns.foldl (λr n=>r.push (UInt8.ofNat n.toNat)) ByteArray.empty
variable (Y:Lay U)
def aHs (m:Mm U):(kd:Kd)->Sv U->Option (kd.ty U)
 | .st T, .a cs=>match rds m (Y.kd T) cs with
  |some ds=>Y.C.bld T ds
  |none=>none
 |kd, .l x=>match rdn m kd x with
  |some y=>bEf kd y
  |none=>none
 |_,_=>none
def oZ (m:Mm U):(ks:List Kd)->List (Sv U)->Option (fM U ks)
 |[],[]=>some ()
 |[k],[x]=>aHs Y m k x
 |k::c::ks,x::xs=>match aHs Y m k x with
  |some a=>match oZ m (c::ks) xs with
   |some b=>some (a,b)
   |none=>none
  |none=>none
 |_,_=>none
def cA3:(kd:Kd)->kd.ty U->Lf U
 | .int k,n=> .int k n
 | .bool,b=> .bool b
 | .str,s=> .str s
 | .sl τ,l=> .sl τ l
 | .st _,_=> .any
def aKz:(kd:Kd)->kd.ty U->Bool×List (Lf U)
 | .st T,x=>(true,Y.C.cel T x)
 | .int k,n=>(false,[.int k n])
 | .bool,b=>(false,[.bool b])
 | .str,s=>(false,[.str s])
 | .sl τ,l=>(false,[.sl τ l])
def bG:(ks:List Kd)->fM U ks->List (Bool×List (Lf U))
 |[],_=>[]
 |[k],x=>[aKz Y k x]
 |k::b::ks,x=>aKz Y k x.1::bG (b::ks) x.2
def bU6:Bool×List (Lf U)->Sv U
 |(true,cs)=> .a cs
 |(false,[x])=> .l x
 |_=> .l .any
def Ff:List (Bool×List (Lf U))->Sv U
 |[x]=>bU6 x
 |xs=> .t xs
def bLs (k:IntKind)(n:Int):Bool:=decide (k.min<=n)&&decide (n<=k.max)
def bLt:Value->Sv U
 | .int k n=>bif bLs k n then .l (.int k n) else .l .any
 | .bool b=> .l (.bool b)
 | .string s=>bif Nat.ble (len s.data.toList) 1000 then .l (.str s) else .l .any
 | .slice none 0 0=> .l .nil
 |_=> .l .any
def xW (s:St U):Operand->Sv U
 | .tmp n=>match nth s.t n with|some x=>x|none=> .l .any
 | .const v=>bLt v
 |_=> .l .any
def eG (s:St U)(x:Operand):Sv U:=match xW s x with
 | .l y=> .l (rsv s.m.ns y)
 |y=>y
variable (TI:List (Nat×TInfo))
def bYf (b:BinOp)(k:IntKind)(m n:Int):Option (Lf U):=match b with
 | .add=>some (.int k (k.wrap (m+n)))
 | .sub=>some (.int k (k.wrap (m-n)))
 | .mul=>some (.int k (k.wrap (m*n)))
 | .lss=>some (.bool (decide (m<n)))
 | .leq=>some (.bool (decide (m<=n)))
 | .gtr=>some (.bool (decide (m>n)))
 | .geq=>some (.bool (decide (m>=n)))
 | .eql=>some (.bool (m==n))
 | .neq=>some (.bool (m !=n))
 | .and=>some (.int k (Fe k m n))
 | .or=>some (.int k (orI k m n))
 | .xor=>some (.int k (bU4 k m n))
 |_=>none
def bYg (b:BinOp)(m n:ByteArray):Option (Lf U):=match b with
 | .eql=>some (.bool (m.toList==n.toList))
 | .neq=>some (.bool (!(m.toList==n.toList)))
 |_=>none
def eqQ:Nat->List (Nat×Nat×Nat)->List (Lf U)->List (Lf U)->Option Bool
 |_,[],[],[]=>some true
 |i,(off,ft,_)::fs,c::cs,d::ds=>bif Nat.beq off i then(match eqQ (Nat.succ i) fs cs ds with
  |some r=>(match kG TI ft,c,d with
   |some ⟨.int _,_,_⟩, .int k m, .int b n=>if k=b then some (m==n&&r) else none
   |some ⟨.bool,_,_⟩, .bool m, .bool n=>some (m==n&&r)
   |some ⟨.str,_,_⟩, .str m, .str n=>some (m.toList==n.toList&&r)
   |_,_,_=>none)
  |none=>none) else none
 |_,_,_,_=>none
def cut (i:TInfo)(cs:List (Lf U))(off:Nat):Option (Sv U):=match i.u with
 | .st _=>let ds:=tk (drp cs off) i.k
  bif Nat.beq (len ds) i.k then some (.a ds) else none
 |_=>match nth cs off with
  |some x=>some (.l x)
  |none=>none
def eqV (i:TInfo):Sv U->Sv U->Option Bool
 | .l (.int k m), .l (.int b n)=>match i.u with
  | .int _=>if k=b then some (m==n) else none
  |_=>none
 | .l (.bool m), .l (.bool n)=>match i.u with
  | .bool=>some (m==n)
  |_=>none
 | .l (.str m), .l (.str n)=>match i.u with
  | .str=>some (m.toList==n.toList)
  |_=>none
 | .a xs, .a ys=>match i.u with
  | .st (g::c)=>eqQ TI 0 (g::c) xs ys
  |_=>none
 |_,_=>none
def eqN:List (Nat×Nat×Nat)->List (Lf U)->List (Lf U)->Option Bool
 |[],_,_=>some true
 |(off,ft,_)::fs,cs,ds=>match kG TI ft with
  |some i=>match cut i cs off with
   |some x=>match cut i ds off with
    |some y=>match eqV TI i x y with
     |some a=>match eqN fs cs ds with
      |some r=>some (a&&r)
      |none=>none
     |none=>none
    |none=>none
   |none=>none
  |none=>none
def eqB (fs:List (Nat×Nat×Nat))(cs ds:List (Lf U)):Option Bool:=match eqQ TI 0 fs cs ds with
 |some r=>some r
 |none=>eqN TI fs cs ds
def bin (b:BinOp)(t:TypeId):Sv U->Sv U->Option (Lf U)
 | .l (.int k m), .l (.int c n)=>if k=c then bYf b k m n else none
 | .l (.str m), .l (.str n)=>bYg b m n
 | .l (.bool m), .l (.bool n)=>match kG TI t with
  |some ⟨.bool,_,_⟩=>match b with
   | .eql=>some (.bool (m==n))
   | .neq=>some (.bool (!(m==n)))
   |_=>none
  |_=>none
 | .a cs, .a ds=>match kG TI t with
  |some ⟨.st (f::fs),_,_⟩=>match eqB TI (f::fs) cs ds with
   |some r=>(match b with
    | .eql=>some (.bool r)
    | .neq=>some (.bool (!r))
    |_=>none)
   |none=>none
  |_=>none
 |_,_=>none
def aU3 (i c τ:Nat)(q:Int)(z:U.El τ):Nat->List (Lf U)->List (Lf U)
 |_,[]=>[]
 |j, .sl τ' l::xs=> .inn i c τ q z j τ' l::aU3 i c τ q z (Nat.succ j) xs
 |j,x::xs=>x::aU3 i c τ q z (Nat.succ j) xs
def aU4 (i c:Nat):List (Lf U)->List (Lf U)
 |[]=>[]
 | .sl τ l::xs=> .bor i c τ l::aU4 i c xs
 |x::xs=>x::aU4 i c xs
def fld (fs:List (Nat×Nat×Nat))(f:Nat):Option (Nat×Nat×Nat):=nth fs f
def xL (m:Mm U)(f:Nat):Lf U->Option (Lf U)
 | .box i off=>match nth m.o i with
  |some ⟨.box ..,_,_⟩=>some (.box i (off+f))
  |_=>none
 | .ptr τ z off=>some (.ptr τ z (off+f))
 | .oel i c τ q z off=>bif okv m i c then some (.oel i c τ q z (off+f)) else none
 |_=>none
def brA {α:Type}(q:Int)(F:Nat->Option α)(n:Nat):Option α:=Nat.rec (motive:=λ_=>Option α) none (λj b=>bif decide (q=(j:Int)) then F j else b) n
def load (s:St U)(i:TInfo):Lf U->Option (Sv U)
 | .box b off=>match nth s.m.o b with
  |some ⟨.box _ cs _,_,_⟩=>cut i cs off
  |_=>none
 | .ptr τ z off=>cut i (Y.C.cel τ z) off
 | .oel b c τ q z off=>bif okv s.m b c then cut i (aU3 b c τ q z 0 (Y.C.cel τ z)) off else none
 | .oin b c _ _ _ _ τ' _ _ z' off=>bif okv s.m b c then cut i (aU4 b c (Y.C.cel τ' z')) off else none
 |_=>none
def lenOf (m:Mm U):Lf U->Option (Lf U)
 | .str z=>some (.int .i64 (z.size:Int))
 | .nil=>some (.int .i64 (0:Int))
 |x=>match uQ m x with
  |some (.sl _ l)=>some (.int .i64 (l.length:Int))
  |_=>none
def spl {α:Type}(l:List α)(off:Nat)(vs:List α):List α:=List.rec (motive:=λ_=>Nat->List α) (λ_=>[]) (λx t b n=>Nat.rec (motive:=λ_=>List α) (vs++drp (x::t) (len vs)) (λm _=>x::b m) n) l off
def parts:Sv U->Option (List (Lf U))
 | .l x=>some [x]
 | .a cs=>some cs
 |_=>none
def bU7:Lf U->Bool
 | .und=>false
 | .any=>false
 |_=>true
def Qv:List (Lf U)->Bool
 |[]=>true
 |x::xs=>bU7 x&&Qv xs
def bOp (s:St U)(fs:List (Nat×Nat×Nat)):List (Nat×Operand)->List (Lf U)->Option (List (Lf U))
 |[],cs=>some cs
 |(f,x)::xs,cs=>match fld fs f,parts (xW s x) with
  |some (off,_,n),some ps=>bif Nat.beq (len ps) n&&Nat.ble (off+n) (len cs)&&Qv ps then bOp s fs xs (spl cs off ps) else none
  |_,_=>none
def pur (s:St U)(op:Op):Option (Sv U):=match op with
 | .move x=>some (xW s x)
 | .assign x=>some (xW s x)
 | .pick c x y=>match eG s c with
  | .l (.bool b)=>bif b then some (xW s x) else some (xW s y)
  |_=>none
 | .nilCheck x=>match eG s x with
  | .l (.box b off)=>match nth s.m.o b with
   |some ⟨.box ..,_,_⟩=>some (.l (.box b off))
   |_=>none
  |_=>none
 | .unOp u _ x=>match u,eG s x with
  | .not, .l (.bool b)=>some (.l (.bool (!b)))
  | .neg, .l (.int k n)=>some (.l (.int k (k.wrap (0-n))))
  |_,_=>none
 | .convert a b x=>match kG TI a,kG TI b,eG s x with
  |some ⟨.int _,_,_⟩,some ⟨.int j,_,_⟩, .l (.int _ n)=>some (.l (.int j (j.wrap n)))
  |_,_,_=>none
 | .fieldAddr t x f=>match kG TI t,eG s x with
  |some ⟨.st fs,_,_⟩, .l p=>match fld fs f with
   |some (off,_,_)=>match xL s.m off p with
    |some z=>some (.l z)
    |none=>none
   |none=>none
  |_,_=>none
 | .load t x=>match kG TI t,eG s x with
  |some i, .l p=>load Y s i p
  |_,_=>none
 | .field t x f=>match kG TI t,eG s x with
  |some ⟨.st fs,_,_⟩, .a cs=>match fld fs f with
   |some (off,ft,_)=>match kG TI ft with
    |some i=>cut i cs off
    |none=>none
   |none=>none
  |_,_=>none
 | .build t ps=>match kG TI t with
  |some ⟨.st fs,_,z⟩=>match bOp s fs ps.toList (z.map Kz.lf) with
   |some cs=>some (.a cs)
   |none=>none
  |_=>none
 | .extract x i=>match eG s x with
  | .t xs=>match nth xs i with
   |some c=>some (bU6 c)
   |none=>none
  |_=>none
 | .call ⟨.builtin .len,d,ats⟩=>match d.toList,ats.toList with
  |[x],[t]=>match kG TI t,eG s x with
   |some ⟨.sl ..,_,_⟩, .l y=>match y with
    | .str _=>none
    |y=>match lenOf s.m y with
     |some z=>some (.l z)
     |none=>none
   |some ⟨.str,_,_⟩, .l (.str z)=>some (.l (.int .i64 (z.size:Int)))
   |_,_=>none
  |_,_=>none
 | .call ⟨.builtin .min,d,_⟩=>match d.toList with
  |[x,y]=>match eG s x,eG s y with
   | .l (.int k a), .l (.int e b)=>if k=e then some (.l (.int k (if b<a then b else a))) else none
   |_,_=>none
  |_=>none
 | .call ⟨.builtin .max,d,_⟩=>match d.toList with
  |[x,y]=>match eG s x,eG s y with
   | .l (.int k a), .l (.int e b)=>if k=e then some (.l (.int k (if b>a then b else a))) else none
   |_,_=>none
  |_=>none
 |_=>none
variable {α:Type}
def bEg (f:(τ:Nat)->List (U.El τ)->List (U.El τ))(o:List (EO U)):Lf U->Option (Lf U)
 | .sl τ l=>some (.sl τ (f τ l))
 | .own i r=>match nth o i with
  |some ⟨.tree τ _ l,rv,cv⟩=>bif Nat.beq rv r then some (.bor i cv τ (f τ l)) else none
  |_=>none
 | .bor i c τ l=>some (.bor i c τ (f τ l))
 | .inn i c _ _ _ _ τ' l=>some (.bor i c τ' (f τ' l))
 |_=>none
def K4 (e k τ:Nat):Bool:=Nat.beq e τ&&Nat.beq (U.K τ) k
def Av:Sv U->Option Int
 | .l (.int _ n)=>some n
 |_=>none
def aDe (s:St U)(op:Op)(K:Sv U->Option α):Option α:=match op with
 | .binOp b t x y u=>match eG s x,eG s y with
  | .l (.int k m), .l (.int v n)=>match b with
   | .lss=>if k=v then(match xW s x with
    | .l (.nat a)=>K (.l (.lt a n))
    |_=>K (.l (.bool (decide (m<n))))) else none
   | .quo=>if k=v then gd (n≠0) (K (.l (.int k (k.wrap (m.tdiv n))))) else none
   | .rem=>if k=v then gd (n≠0) (K (.l (.int k (m.tmod n)))) else none
   | .shl=>gd (0<=n) (K (.l (.int k (aKx k m n))))
   | .shr=>gd (0<=n) (K (.l (.int k (aHr k m n))))
   |b=>if k=v then(match bYf b k m n with|some z=>K (.l z)|none=>none) else none
  | .l (.str m), .l (.str n)=>match b with
   | .add=>gd (m.size+n.size<=9223372036854775807) (K (.l (.str (m++n))))
   |b=>match bYg b m n with|some z=>K (.l z)|none=>none
  |x,y=>match bin TI b t x y with
   |some z=>K (.l z)
   |none=>none
 | .indexAddr t x y=>match kG TI t,eG s x,eG s y with
  |some ⟨.sl e ek _,_,_⟩, .l p, .l (.int _ q)=>match p with
   | .sl τ l=>bif K4 (U:=U) e ek τ then bd (aN l q) λz=>K (.l (.ptr τ z 0)) else none
   | .own i r=>match nth s.m.o i with
    |some ⟨.tree τ _ l,rv,cv⟩=>bif Nat.beq rv r&&K4 (U:=U) e ek τ then bd (aN l q) λz=>K (.l (.oel i cv τ q z 0)) else none
    |_=>none
   | .inn i c τ q0 z j τ' l=>match nth s.m.o i with
    |some ⟨.tree _ d _,_,cv⟩=>bif d&&(Nat.beq cv c&&K4 (U:=U) e ek τ') then bd (aN l q) λz'=>K (.l (.oin i c τ q0 z j τ' l q z' 0)) else none
    |_=>none
   |_=>none
  |some ⟨.st [],k,_⟩, .l (.box b off), .l (.int _ q)=>brA q (λj=>match xL s.m j (.box b off) with
   |some z=>K (.l z)
   |none=>none) k
  |_,_,_=>none
 | .index t x y=>match kG TI t,eG s x,eG s y with
  |some ⟨.str,_,_⟩, .l (.str z), .l (.int _ q)=>bd (aN (bK z) q) λc=>K (.l (.int .u8 c))
  |_,_,_=>none
 | .slice t x A hi none=>match kG TI t,eG s x with
  |some ⟨.str,_,_⟩, .l (.str z)=>match A,hi with
   |none,some h=>match Av (eG s h) with
    |some n=>gd (pV z 0 n) (K (.l (.str (z.extract 0 n.toNat))))
    |none=>none
   |some l,none=>match Av (eG s l) with
    |some m=>gd (pV z m z.size) (K (.l (.str (z.extract m.toNat z.size))))
    |none=>none
   |some l,some h=>match Av (eG s l),Av (eG s h) with
    |some m,some n=>gd (pV z m n) (K (.l (.str (z.extract m.toNat n.toNat))))
    |_,_=>none
   |none,none=>none
  |some ⟨.sl e ek _,_,_⟩, .l p=>match uQ s.m p with
   |some (.sl τ l)=>bif K4 (U:=U) e ek τ then(match A,hi with
    |none,none=>match bEg (λ_ l=>l) s.m.o p with
     |some f=>K (.l f)
     |none=>none
    |none,some h=>match Av (eG s h),bEg (λ_ l=>l.take (match Av (eG s h) with|some n=>n.toNat|none=>0)) s.m.o p with
     |some n,some f=>gd (gI l n) (K (.l f))
     |_,_=>none
    |some b,none=>match Av (eG s b),bEg (λ_ l=>l.drop (match Av (eG s b) with|some n=>n.toNat|none=>0)) s.m.o p with
     |some n,some f=>gd (gI l n) (K (.l f))
     |_,_=>none
    |some b,some h=>match Av (eG s b),Av (eG s h),bEg (λ_ l=>(l.take (match Av (eG s h) with|some n=>n.toNat|none=>0)).drop (match Av (eG s b) with|some n=>n.toNat|none=>0)) s.m.o p with
     |some n,some m,some f=>gd (0<=n/\n<=m/\gI l m) (K (.l f))
     |_,_,_=>none) else none
   |_=>none
  |_,_=>none
 | .convert B D x=>match kG TI B,kG TI D,eG s x with
  |some ⟨.sl e _ _,_,_⟩,some ⟨.str,_,_⟩, .l p=>match uQ s.m p,kG TI e with
   |some (.sl τ l),some ⟨.int .u8,_,_⟩=>match slq Y.bt τ l with
    |some l=>bif Nat.beq e τ then gd (l.length<=68719476736) (K (.l (.str (bS2 (l.map Y.bi))))) else none
    |none=>none
   |_,_=>none
  |_,_,_=>match pur Y TI s (.convert B D x) with
   |some x=>K x
   |none=>none
 |op=>match pur Y TI s op with
  |some x=>K x
  |none=>none
end
end Go.EV
namespace Go.EV
open Go.RowKit Go.VK
noncomputable section
variable {U:Uni} (Y:Lay U) (TI:List (Nat×TInfo)) (FZ:List (Nat×Sum U)) {α:Type}
def put (s:St U)(d:Option Nat)(x:Sv U):St U:=match d with
 |some n=>⟨upd s.t n x,s.m,s.fr⟩
 |none=>s
def psh (s:St U)(b:Ob U):St U:=⟨s.t,⟨s.m.o++[⟨b,s.m.k,s.m.k⟩],s.m.k,s.m.ns⟩,s.fr⟩
def trn (s:St U)(i:Nat)(b:Ob U)(rv:Nat):St U:=⟨s.t,⟨upd s.m.o i ⟨b,rv,Nat.succ s.m.k⟩,Nat.succ s.m.k,s.m.ns⟩,s.fr⟩
def kil (k:Nat)(ids:List Nat)(o:List (EO U)):List (EO U):=List.rec (motive:=λ_=>List (EO U)) o (λi _ b=>upd b i ⟨.dead,k,k⟩) ids
def A7 (i:Nat)(l:List Nat):Bool:=List.rec (motive:=λ_=>Bool) false (λx _ b=>cond (Nat.beq x i) true b) l
def dist (l:List Nat):Bool:=List.rec (motive:=λ_=>Bool) true (λx xs b=>cond (A7 x xs) false b) l
def bLu (m:Mm U)(kd:Kd):Lf U->Option (Lf U×List Nat×Bool)
 | .nil=>match kd with| .sl τ=>some (.sl τ [],[],true)|_=>none
 | .sl τ l=>some (.sl τ l,[],false)
 | .own i r=>match nth m.o i with
  |some ⟨.tree τ d l,rv,_⟩=>bif Nat.beq rv r then some (.sl τ l,[i],d) else none
  |_=>none
 | .bor .. =>none
 | .inn .. =>none
 | .suf i c τ q l=>match nth m.o i with
  |some ⟨.tree _ _ _,_,cv⟩=>bif Nat.beq cv c then some (.sl τ (l.drop q.toNat),[i],false) else none
  |_=>none
 |x=>match uQ m x with
  |some y=>some (y,[],true)
  |none=>none
def aU5 (m:Mm U):List Kd->List (Lf U)->Option (List (Lf U)×List Nat×Bool)
 |[],[]=>some ([],[],true)
 |kd::ks,x::xs=>match bLu m kd x with
  |some (y,i,d)=>match aU5 m ks xs with
   |some (ys,is,ds)=>some (y::ys,i++is,d&&ds)
   |none=>none
  |none=>none
 |_,_=>none
def bYi (s:St U)(e:Nat)(x:Sv U):Option (U.El e×List Nat×Bool):=match parts x with
 |some cs=>match aU5 s.m (Y.kd e) cs with
  |some (ds,ids,d)=>match Y.C.bld e ds with
   |some z=>some (z,ids,d)
   |none=>none
  |none=>none
 |none=>none
def aGd (s:St U)(e:Nat):Nat->List (Nat×Operand)->Option (List (U.El e)×List Nat×Bool)
 |_,[]=>some ([],[],true)
 |n,(i,x)::ps=>bif Nat.beq i n then(match bYi Y s e (eG s x) with
  |some (z,ids,d)=>match aGd s e (Nat.succ n) ps with
   |some (b,c,ds)=>some (z::b,ids++c,d&&ds)
   |none=>none
  |none=>none) else none
def Kd.aDM:Kd->Bool
 | .sl _=>true
 |_=>false
def aYt (l:List Kd):Bool:=List.rec (motive:=λ_=>Bool) false (λx _ b=>cond x.aDM true b) l
def aYu (τ:Nat):Bool:=cond (aYt (Y.kd τ)) false true
def flatK:Kd->Bool
 | .sl _=>false
 | .st T=>aYu Y T
 |_=>true
def Qh (l:List Kd):Bool:=List.rec (motive:=λ_=>Bool) true (λx _ b=>cond (flatK Y x) b false) l
def pE:Lf U->Bool
 | .own .. =>false
 | .bor .. =>false
 | .inn .. =>false
 |_=>true
def aHt:List (Lf U)->Bool
 |[]=>true
 |x::xs=>pE x&&aHt xs
def bG5:Sv U->Bool
 | .l x=>pE x
 | .a cs=>aHt cs
 | .t _=>false
def sI:List (Sv U)->Bool
 |[]=>true
 |x::xs=>bG5 x&&sI xs
def lsV:Sv U->List (Lf U)
 | .l x=>[x]
 | .a cs=>cs
 | .t _=>[]
def bU8:List (Lf U)->Option Nat
 |[]=>none
 | .own i _::_=>some i
 |_::xs=>bU8 xs
def bQs:List (Sv U)->Option Nat
 |[]=>none
 |x::xs=>match bU8 (lsV x) with
  |some i=>some i
  |none=>bQs xs
def aYv (i:Nat):List (Lf U)->Bool
 |[]=>true
 | .own j _::xs=>Nat.beq i j&&aYv i xs
 |x::xs=>pE x&&aYv i xs
def bLv (i:Nat):List (Sv U)->Bool
 |[]=>true
 |x::xs=>aYv i (lsV x)&&bLv i xs
def bLw (m:Mm U)(xs:List (Sv U)):Option (Nat×Nat):=match bQs xs with
 |some i=>bif bLv i xs then(match nth m.o i with
  |some e=>some (i,e.cv)
  |none=>none) else none
 |none=>none
def bEi (i c:Nat):List (Lf U)->List (Lf U)
 |[]=>[]
 | .sl τ l::xs=> .bor i c τ l::bEi i c xs
 |x::xs=>x::bEi i c xs
def Ye (i c:Nat):List (Bool×List (Lf U))->List (Bool×List (Lf U))
 |[]=>[]
 |(b,cs)::xs=>(b,bEi i c cs)::Ye i c xs
def aYw:Operand->Operand->Bool
 | .tmp i, .tmp j=>Nat.beq i j
 | .const (.int k m), .const (.int b n)=>decide (k=b)&&decide (m=n)
 |_,_=>false
def uR (k:Nat):Nat->List (Lf U)->List (Lf U)×List (EO U)
 |_,[]=>([],[])
 |n, .sl τ l::xs=>let r:=uR k (Nat.succ n) xs
  (.own n k::r.1,⟨.tree τ true l,k,k⟩::r.2)
 |n,x::xs=>let r:=uR k n xs
  (x::r.1,r.2)
def jQ (k:Nat):Nat->List (Bool×List (Lf U))->List (Bool×List (Lf U))×List (EO U)
 |_,[]=>([],[])
 |n,(b,cs)::xs=>let r:=uR k n cs
  let q:=jQ k (n+len r.2) xs
  ((b,r.1)::q.1,r.2++q.2)
def apD (s:St U)(e:Nat):Lf U->Option (Nat×Bool×List (U.El e)×St U)
 | .nil=>some (len s.m.o,true,[],psh s (.tree e true []))
 | .own i r=>match nth s.m.o i with
  |some ⟨.tree τ d l,rv,_⟩=>bif Nat.beq rv r then(match slq e τ l with
   |some l=>some (i,d,l,s)
   |none=>none) else none
  |_=>none
 |_=>none
def aT9 (i:Nat):Lf U->Bool
 | .own j _=>cond (Nat.beq i j) false true
 | .bor j _ _ _=>cond (Nat.beq i j) false true
 | .inn j _ _ _ _ _ _ _=>cond (Nat.beq i j) false true
 |_=>true
def apS (m:Mm U)(e i:Nat)(py:Lf U):Option (List (U.El e)×List Nat×Bool):=match py with
 | .nil=>some ([],[],true)
 |py=>bif aYu Y e then(match uQ m py with
   |some (.sl τ l)=>match slq e τ l with
    |some l=>bif aT9 i py then some (l,[],true) else none
    |none=>none
   |_=>none) else(match py with
   | .sl τ l=>match slq e τ l with
    |some l=>some (l,[],false)
    |none=>none
   | .own j r=>match nth m.o j with
    |some ⟨.tree τ d l,rv,_⟩=>bif Nat.beq rv r&&aT9 i py then(match slq e τ l with
     |some l=>some (l,[j],d)
     |none=>none) else none
    |_=>none
   |_=>none)
def aYx:List Kd->Bool
 |[]=>true
 | .sl τ::ks=>Nat.ble 1 (U.K τ)&&aYx ks
 |_::ks=>aYx ks
def wr1 (m:Mm U):Lf U->Lf U->Option (List (Nat×EO U))
 | .own i r,y=>match nth m.o i,y with
  |some ⟨.tree τ' d _,rv,_⟩, .sl τ l=>bif d&&(Nat.beq rv r&&Nat.beq τ' τ) then some [(i,⟨.tree τ true l,rv,Nat.succ m.k⟩)] else none
  |_,_=>none
 | .inn i c τ q z j τ' _,y=>match nth m.o i,y with
  |some ⟨.tree τ1 d L,rv,cv⟩, .sl τ'' l=>bif d&&(Nat.beq cv c&&Nat.beq τ'' τ') then(match slq τ τ1 L with
   |some L=>match Y.C.bld τ (upd (Y.C.cel τ z) j (.sl τ'' l)) with
    |some z'=>some [(i,⟨.tree τ true (L.set q.toNat z'),rv,Nat.succ m.k⟩)]
    |none=>none
   |none=>none) else none
  |_,_=>none
 | .sl ..,_=>none
 | .bor ..,_=>none
 |_,_=>some []
def wrm (m:Mm U):List (Lf U)->List (Lf U)->Option (List (Nat×EO U))
 |[],[]=>some []
 |x::xs,y::ys=>match wr1 Y m x y with
  |some u=>match wrm m xs ys with
   |some b=>some (u++b)
   |none=>none
  |none=>none
 |_,_=>none
def cE1 (l:List (Nat×EO U))(o:List (EO U)):List (EO U):=List.rec (motive:=λ_=>List (EO U)) o (λx _ b=>upd b x.1 x.2) l
def cE2 (l:List (Nat×EO U)):List Nat:=List.rec (motive:=λ_=>List Nat) [] (λx _ b=>x.1::b) l
def aK0 {β:Type}(x:Option β):Bool:=match x with
 |some _=>false
 |none=>true
def stp (s:St U)(op:Op)(K:Sv U->St U->Option α):Option α:=match op with
 | .box T x=>match parts (xW s x) with
  |some cs=>bif Qv cs then K (.l (.box (len s.m.o) 0)) (psh s (.box T cs (cs.map λ_=>s.m.k))) else none
  |none=>none
 | .alloc T=>match kG TI T with
  |some i=>K (.l (.box (len s.m.o) 0)) (psh s (.box T (i.z.map Kz.lf) (i.z.map λ_=>s.m.k)))
  |none=>none
 | .store t x y=>match kG TI t,eG s x,parts (xW s y) with
  |some i, .l (.box b off),some ps=>match nth s.m.o b with
   |some ⟨.box T cs u,rv,_⟩=>bif Nat.beq (len ps) i.k&&(Nat.ble (off+i.k) (len cs)&&Qv ps) then K (.l .any) (trn s b (.box T (spl cs off ps) (spl u off (ps.map λ_=>Nat.succ s.m.k))) rv) else none
   |_=>none
  |some i, .l (.oel b c τ q z off),some ps=>bif okv s.m b c then(match nth s.m.o b with
   |some ⟨.tree τ' d l,rv,_⟩=>match slq τ τ' l with
    |some l=>match aU5 s.m (tk (drp (Y.kd τ) off) i.k) ps with
     |some (ds,ids,d')=>bif Nat.beq (len ps) i.k&&(Nat.ble (off+i.k) (U.K τ)&&(Qv ps&&dist (b::ids))) then(match Y.C.bld τ (spl (Y.C.cel τ z) off ds) with
      |some z'=>let s':=trn s b (.tree τ (d&&d') (l.set q.toNat z')) rv
       K (.l .any) ⟨s'.t,⟨kil s'.m.k ids s'.m.o,s'.m.k,s'.m.ns⟩,s'.fr⟩
      |none=>none) else none
     |none=>none
    |none=>none
   |_=>none) else none
  |some i, .l (.oin b c τ q z j τ' l q' z' off),some ps=>bif okv s.m b c then(match nth s.m.o b with
   |some ⟨.tree τ1 d L,rv,_⟩=>match slq τ τ1 L with
    |some L=>match aU5 s.m (tk (drp (Y.kd τ') off) i.k) ps with
     |some (ds,ids,d')=>bif Nat.beq (len ps) i.k&&(Nat.ble (off+i.k) (U.K τ')&&(Qv ps&&dist (b::ids))) then(match Y.C.bld τ' (spl (Y.C.cel τ' z') off ds) with
      |some v=>match Y.C.bld τ (upd (Y.C.cel τ z) j (.sl τ' (l.set q'.toNat v))) with
       |some A=>let s':=trn s b (.tree τ (d&&d') (L.set q.toNat A)) rv
        K (.l .any) ⟨s'.t,⟨kil s'.m.k ids s'.m.o,s'.m.k,s'.m.ns⟩,s'.fr⟩
       |none=>none
      |none=>none) else none
     |none=>none
    |none=>none
   |_=>none) else none
  |_,_,_=>none
 | .buildSlice t n ps=>match kG TI t with
  |some ⟨.sl e ek _,_,_⟩=>bif Nat.beq (len ps.toList) n&&(Nat.ble (n*ek) 16777216&&K4 (U:=U) e ek e) then(match aGd Y s e 0 ps.toList with
   |some (l,ids,d)=>bif dist (len s.m.o::ids) then(let s':=trn (psh s .dead) (len s.m.o) (.tree e d l) s.m.k
    K (.l (.own (len s.m.o) s.m.k)) ⟨s'.t,⟨kil s'.m.k ids s'.m.o,s'.m.k,s'.m.ns⟩,s'.fr⟩) else none
   |none=>none) else none
  |_=>none
 | .makeSlice t x y=>match kG TI t with
  |some ⟨.sl e ek eb,_,_⟩=>match kG TI e,eG s x with
   |some i, .l (.int .i64 n)=>bif aYw x y&&(Nat.ble eb 2048&&K4 (U:=U) e ek e) then(match rds s.m (Y.kd e) (i.z.map Kz.lf) with
    |some ds=>match Y.C.bld e ds with
     |some z=>gd (Qu n) (K (.l (.own (len s.m.o) s.m.k)) (psh s (.tree e true (List.replicate n.toNat z))))
     |none=>none
    |none=>none) else none
   |_,_=>none
  |_=>none
 | .call ⟨.builtin .append,h,ats⟩=>match h.toList,ats.toList with
  |[x,y],[t,t2]=>match kG TI t with
   |some ⟨.sl e ek eb,_,_⟩=>bif Nat.beq t t2&&(Nat.ble eb 2048&&K4 (U:=U) e ek e) then(match eG s x,eG s y with
    | .l (.suf i c τ n l), .l py=>bif okv s.m i c then(match slq e τ l with
     |some l=>match apS Y s.m e i py with
      |some (l',[],_)=>bif Nat.ble 1 (len l') then gd (aO l l') (K (.l (.bor i (Nat.succ s.m.k) e (l.drop n.toNat++l'))) (trn s i .dead (Nat.succ s.m.k))) else none
      |_=>none
     |none=>none) else none
    | .l B, .l py=>match apD s e B with
     |some (i,d,l,s1)=>match apS Y s1.m e i py with
      |some (l',ids,d')=>gd (aO l l') (
       let s2:=trn s1 i (.tree e (d&&d') (l++l')) (Nat.succ s1.m.k)
       K (.l (.own i (Nat.succ s1.m.k))) ⟨s2.t,⟨kil s2.m.k ids s2.m.o,s2.m.k,s2.m.ns⟩,s2.fr⟩)
      |none=>none
     |none=>none
    |_,_=>none) else none
   |_=>none
  |_,_=>none
 | .call ⟨.value (.func f),h,_⟩=>match kG FZ f with
  |some S=>bif S.wt&&S.fr then none else(let xs:=h.toList.map (eG s)
   match oZ Y s.m S.ar xs with
   |some a=>bif S.wt then none
    else bif S.fr then bd (S.m a) λr=>
     let q:=jQ s.m.k (len s.m.o) (bG Y S.rs r)
     K (Ff q.1) ⟨s.t,⟨s.m.o++q.2,s.m.k,s.m.ns⟩,s.fr⟩
    else bif Qh Y S.rs||sI xs then bd (S.m a) λr=>K (Ff (bG Y S.rs r)) s
    else match bLw s.m xs with
     |some (i,c)=>bd (S.m a) λr=>K (Ff (Ye i c (bG Y S.rs r))) s
     |none=>none
   |none=>none)
  |none=>none
 | .binOp .add _ x y _=>match xW s x,y with
  | .l (.nat a), .const (.int .i64 n)=>bif decide (n=1) then(match nth s.m.ns a with
    |some (i,f)=>bif f then K (.l (.nat (len s.m.ns))) ⟨s.t,⟨s.m.o,s.m.k,s.m.ns++[(Nat.succ i,false)]⟩,s.fr⟩ else aDe Y TI s op (λx=>K x s)
    |none=>none) else aDe Y TI s op (λx=>K x s)
  |_,_=>aDe Y TI s op (λx=>K x s)
 | .convert D p x=>match kG FZ (p+1000000) with
  |some _=>match kG TI D,kG TI p,kG TI Y.bt,eG s x with
   |some ⟨.str,_,_⟩,some ⟨.sl e _ _,_,_⟩,some ⟨.int .u8,_,_⟩, .l (.str z)=>bif Nat.beq e Y.bt then K (.l (.sl Y.bt ((bK z).map Y.be))) s else none
   |_,_,_,_=>aDe Y TI s op (λx=>K x s)
  |none=>aDe Y TI s op (λx=>K x s)
 | .slice t x none none none=>aDe Y TI s op (λx=>K x s)
 | .slice t x (some b) none none=>match kG FZ 2000000 with
  |some _=>match kG TI t,eG s x,Av (eG s b) with
   |some ⟨.sl e ek _,_,_⟩, .l (.own i r),some n=>match nth s.m.o i with
    |some ⟨.tree τ _ l,rv,cv⟩=>bif Nat.beq rv r&&K4 (U:=U) e ek τ then gd (gI l n) (K (.l (.suf i cv τ n l)) s) else none
    |_=>none
   |_,_,_=>aDe Y TI s op (λx=>K x s)
  |none=>aDe Y TI s op (λx=>K x s)
 |op=>aDe Y TI s op (λx=>K x s)
def one (o:Oper)(s:St U)(K:St U->Option α):Option α:=stp Y TI FZ s o.op λx s'=>K (put s' o.dst x)
def tst (n:Nat)(s:St U)(T F:St U->Option α):Option α:=match nth s.t n with
 |some (.l (.bool b))=>bif b then T (put s (some n) (.l (.bool true))) else F (put s (some n) (.l (.bool false)))
 |some (.l (.lt a m))=>match nth s.m.ns a with
  |some (i,_)=>bif decide ((i:Int)<m) then T (put ⟨s.t,⟨s.m.o,s.m.k,upd s.m.ns a (i,true)⟩,s.fr⟩ (some n) (.l (.bool true))) else F (put s (some n) (.l (.bool false)))
  |none=>none
 |_=>none
def skp (o:Oper)(s:St U)(K:St U->Option α):Option α:=K (put s o.dst (.l .und))
def bZ4:Option (Sv U)->Bool
 |some (.l .und)=>true
 |_=>false
def bJj (al:List Oper)(o:Oper)(run:St U->Option α)(s:St U)(K:St U->Option α):Option α:=match o.guard with
 |none=>run s
 |some (j,want)=>match nth al j with
  |some oj=>match oj.dst with
   |some n=>bif bZ4 (nth s.t n) then skp o s K else
    tst n s (λs=>bif want then run s else skp o s K) (λs=>bif want then skp o s K else run s)
   |none=>none
  |none=>none
def grd (al:List Oper)(o:Oper)(s:St U)(K:St U->Option α):Option α:=bJj al o (λs=>one Y TI FZ o s K) s K
def ops (al:List Oper):List Oper->St U->(St U->Option α)->Option α
 |[],s,K=>K s
 |o::l,s,K=>grd Y TI FZ al o s λs=>ops al l s K
def Fg:Op->Nat
 | .box .. | .alloc _| .makeSlice .. =>1
 | .buildSlice .. =>1
 | .call ⟨.value (.func f),_,_⟩=>match kG FZ f with
  |some S=>bif S.wt then 2 else 1
  |none=>1
 | .call ⟨.value _,_,_⟩=>1
 | .store .. =>2
 | .call ⟨.builtin .append,_,_⟩=>2
 | .convert _ b _=>match kG FZ (b+1000000) with
  |some _=>1
  |none=>0
 |_=>0
inductive Lo where
 |s (n:Nat)
 |c (b j:Nat)
inductive DI where
 |dat (l:Lo) (kd:Kd)
 |nat (l:Lo)
 |tr (l:Lo) (i τ:Nat) (d:Bool)
 |nt (l:Lo) (τ:Nat) (d:Bool)
 |ti (i τ:Nat) (d:Bool)
structure Tm where
 ws:List (Nat×Nat)
 it:List DI
 an:List (Nat×Nat)
 dd:List Nat
def DI.ty (U:Uni):DI->Type
 | .dat _ kd=>kd.ty U
 | .nat _=>Nat
 | .tr _ _ τ _=>List (U.El τ)
 | .nt _ τ _=>List (U.El τ)
 | .ti _ τ _=>List (U.El τ)
def Dat (U:Uni):List DI->Type
 |[]=>Unit
 |[k]=>k.ty U
 |k::b::ks=>k.ty U×Dat U (b::ks)
def lkp (s:St U):Lo->Option (Sv U)
 | .s n=>nth s.t n
 | .c b j=>match nth s.m.o b with
  |some ⟨.box _ cs _,_,_⟩=>match nth cs j with
   |some x=>some (.l x)
   |none=>none
  |_=>none
def cA4 (m:Mm U)(i τ:Nat)(d:Bool):Option (List (U.El τ)):=match nth m.o i with
 |some ⟨.tree τ' d' l,rv,_⟩=>bif Nat.beq rv 0&&(d'|| !d) then slq τ τ' l else none
 |_=>none
def Ad (m:Mm U)(τ:Nat)(d:Bool):Sv U->Option (Option Nat×List (U.El τ))
 | .l .nil=>bif Nat.ble 1 (U.K τ) then some (none,[]) else none
 | .l (.own i r)=>match nth m.o i with
  |some ⟨.tree τ' d' l,rv,_⟩=>bif Nat.beq rv r&&(d'|| !d) then(match slq τ τ' l with
   |some l=>some (some i,l)
   |none=>none) else none
  |_=>none
 |_=>none
def bU9 (m:Mm U):Sv U->Option Nat
 | .l (.nat a)=>match nth m.ns a with
  |some (i,_)=>some i
  |none=>none
 | .l (.int .i64 n)=>bif decide (n=0) then some 0 else none
 |_=>none
def bJk (s:St U):(x:DI)->Option (x.ty U)
 | .ti i τ d=>cA4 s.m i τ d
 | .dat l kd=>match lkp s l with
  |some v=>bif bG5 v then aHs Y s.m kd v else none
  |none=>none
 | .nat l=>match lkp s l with
  |some v=>bU9 s.m v
  |none=>none
 | .tr l _ τ d=>match lkp s l with
  |some v=>match Ad s.m τ d v with
   |some q=>some q.2
   |none=>none
  |none=>none
 | .nt l τ d=>match lkp s l with
  |some v=>match Ad s.m τ d v with
   |some q=>some q.2
   |none=>none
  |none=>none
def gets (s:St U):(xs:List DI)->Option (Dat U xs)
 |[]=>some ()
 |[x]=>bJk Y s x
 |x::c::xs=>match bJk Y s x with
  |some a=>match gets s (c::xs) with
   |some b=>some (a,b)
   |none=>none
  |none=>none
def aK1 (s:St U):List DI->Option (List (Option Nat×Option Nat))
 |[]=>some []
 | .ti i _ _::xs=>match aK1 s xs with
  |some r=>some ((some i,some i)::r)
  |none=>none
 | .tr l i τ d::xs=>match lkp s l with
  |some v=>match Ad s.m τ d v with
   |some q=>match aK1 s xs with
    |some r=>some ((some i,q.1)::r)
    |none=>none
   |none=>none
  |none=>none
 | .nt l τ d::xs=>match lkp s l with
  |some v=>match Ad s.m τ d v with
   |some q=>match aK1 s xs with
    |some r=>some ((none,q.1)::r)
    |none=>none
   |none=>none
  |none=>none
 |_::xs=>aK1 s xs
def Qi (l:List (Option Nat×Option Nat)):List Nat:=List.rec (motive:=λ_=>List Nat) [] (λx _ b=>match x.2 with|some i=>i::b|none=>b) l
def aP2:List DI->List (Nat×Nat)
 |[]=>[]
 | .dat (.c b j) _::xs=>(b,j)::aP2 xs
 | .nat (.c b j)::xs=>(b,j)::aP2 xs
 | .tr (.c b j) _ _ _::xs=>(b,j)::aP2 xs
 | .nt (.c b j) _ _::xs=>(b,j)::aP2 xs
 |_::xs=>aP2 xs
def bEk (b j:Nat)(l:List (Nat×Nat)):Bool:=List.rec (motive:=λ_=>Bool) false (λx _ c=>cond (Nat.beq x.1 b&&Nat.beq x.2 j) true c) l
def hasB (b:Nat)(l:List (Nat×Nat)):Bool:=List.rec (motive:=λ_=>Bool) false (λx _ c=>cond (Nat.beq x.1 b) true c) l
def bYj (cs:List (Nat×Nat))(k b:Nat):Nat->List Nat->Bool
 |_,[]=>true
 |j,v::vs=>(Nat.ble v k||bEk b j cs)&&bYj cs k b (Nat.succ j) vs
def bOq (cs:List (Nat×Nat))(dd:List Nat)(k:Nat):Nat->List (EO U)->List (EO U)->Bool
 |_,[],_=>true
 |i,_::es,e'::es'=>(Nat.ble e'.cv k||(A7 i dd||(match e'.ob with| .box _ _ vs=>hasB i cs&&bYj cs k i 0 vs|_=>false)))&&bOq cs dd k (Nat.succ i) es es'
 |_,_,[]=>false
def bS4 (N:Nat)(dd:List Nat):List Nat->Bool
 |[]=>true
 |i::is=>(Nat.ble N i||A7 i dd)&&bS4 N dd is
def bS5 (N:Nat):List Nat->Bool
 |[]=>true
 |i::is=>Nat.ble (Nat.succ i) N&&bS5 N is
def iD:List DI->List Nat
 |[]=>[]
 | .tr _ i _ _::xs=>i::iD xs
 | .ti i _ _::xs=>i::iD xs
 |_::xs=>iD xs
def Tm.dead (tm:Tm):List Nat:=iD tm.it++tm.dd
def Tm.aBU (tm:Tm):List (Nat×Nat):=aP2 tm.it++tm.an
def Wi:List (Nat×Nat)->Nat->Nat->Bool
 |[],_,_=>false
 |(a,b)::r,p,n=>(Nat.ble (p+a) n&&Nat.ble (Nat.succ n) (p+a+b))||Wi r (p+a+b) n
def slI (ws:List (Nat×Nat)):List DI->Bool
 |[]=>true
 | .dat (.s n) _::xs=>Wi ws 0 n&&slI ws xs
 | .nat (.s n)::xs=>Wi ws 0 n&&slI ws xs
 | .tr (.s n) _ _ _::xs=>Wi ws 0 n&&slI ws xs
 | .nt (.s n) _ _::xs=>Wi ws 0 n&&slI ws xs
 |_::xs=>slI ws xs
def col (b:St U)(tm:Tm)(s:St U):Option (Dat U tm.it):=match aK1 s tm.it with
 |some q=>bif slI tm.ws tm.it&&(bOq tm.aBU tm.dead b.m.k 0 b.m.o s.m.o&&(bS4 (len b.m.o) tm.dead (Qi q)&&(dist (Qi q)&&(dist (iD tm.it)&&bS5 (len b.m.o) (iD tm.it))))) then gets Y s tm.it else none
 |none=>none
def bLx (n:Nat)(K:List (Sv U)->List (Sv U)):List (Sv U)->List (Sv U):=Nat.rec (motive:=λ_=>List (Sv U)->List (Sv U)) K (λ_ b l=>match l with|[]=>[]|_::t=>Sv.l .any::b t) n
def bOs (n:Nat)(K:List (Sv U)->List (Sv U)):List (Sv U)->List (Sv U):=Nat.rec (motive:=λ_=>List (Sv U)->List (Sv U)) K (λ_ b l=>match l with|[]=>[]|x::t=>x::b t) n
def wip:List (Nat×Nat)->List (Sv U)->List (Sv U)
 |[],l=>l
 |(a,b)::r,l=>bOs a (bLx b (wip r)) l
def wrG (ws:List (Nat×Nat))(al:List Oper)(l:List Oper):Bool:=List.rec (motive:=λ_=>Bool) true (λo _ b=>cond ((match o.dst with|some n=>Wi ws 0 n|none=>true)&&(match o.guard with|some (j,_)=>(match nth al j with|some oj=>(match oj.dst with|some n=>Wi ws 0 n|none=>true)|none=>true)|none=>true)) b false) l
def wr (ws:List (Nat×Nat)):Nat->Code->Bool
 |0,_=>false
 |f+1, .seq a b=>wr ws f a&&wr ws f b
 |f+1, .cond (.tmp n) a b=>Wi ws 0 n&&(wr ws f a&&wr ws f b)
 |f+1, .block _ c=>wr ws f c
 |f+1, .loop c=>wr ws f c
 |_+1, .region _ os _=>wrG ws os.toList os.toList
 |_+1, .skip=>true
 |_+1, .ret=>true
 |_+1, .exit _=>true
 |_+1,_=>false
def aBG (s:St U)(x:Sv U):Lo->St U
 | .s n=>put s (some n) x
 | .c b j=>match nth s.m.o b,x with
  |some ⟨.box T cs vs,rv,_⟩, .l y=>trn s b (.box T (upd cs j y) (upd vs j (Nat.succ s.m.k))) rv
  |_,_=>s
def set1 (k n:Nat)(s:St U):(x:DI)->x.ty U->St U
 | .dat l kd,d=>aBG s (bU6 (aKz Y kd d)) l
 | .nat l,i=>aBG ⟨s.t,⟨s.m.o,s.m.k,s.m.ns++[(⟨i,false⟩:Nat×Bool)]⟩,s.fr⟩ (.l (.nat (len s.m.ns))) l
 | .tr l i _ _,_=>aBG s (.l (.own i k)) l
 | .nt l _ _,_=>aBG s (.l (.own n k)) l
 | .ti _ _ _,_=>s
def nxt (n:Nat):DI->Nat
 | .nt .. =>Nat.succ n
 |_=>n
def sets (k n:Nat)(s:St U):(xs:List DI)->Dat U xs->St U
 |[],_=>s
 |[x],d=>set1 Y k n s x d
 |x::b::xs,d=>sets k (nxt n x) (set1 Y k n s x d.1) (b::xs) d.2
def aYy (k:Nat):(x:DI)->x.ty U->List (EO U)->List (EO U)
 | .tr _ i τ b,d,o=>upd o i ⟨.tree τ b d,k,k⟩
 | .nt _ τ b,d,o=>o++[⟨.tree τ b d,k,k⟩]
 | .ti i τ b,d,o=>upd o i ⟨.tree τ b d,0,k⟩
 |_,_,o=>o
def aU6 (k:Nat):(xs:List DI)->Dat U xs->List (EO U)->List (EO U)
 |[],_,o=>o
 |[x],d,o=>aYy k x d o
 |x::b::xs,d,o=>aU6 k (b::xs) d.2 (aYy k x d.1 o)
def A8 (k:Nat)(l:List (Nat×Nat))(o:List (EO U)):List (EO U):=List.rec (motive:=λ_=>List (EO U)) o (λx _ b=>match nth b x.1 with|some ⟨.box T cs vs,_,_⟩=>upd b x.1 ⟨.box T (upd cs x.2 .any) (upd vs x.2 k),k,k⟩|_=>b) l
def reb (b:St U)(tm:Tm)(d:Dat U tm.it):St U:=
 let k:=Nat.succ b.m.k
 sets Y k (len b.m.o) ⟨wip tm.ws b.t,⟨aU6 k tm.it d (A8 k tm.aBU (kil k tm.dead b.m.o)),k,b.m.ns⟩,b.fr⟩ tm.it d
inductive An where
 |n
 |s (a b:An)
 |j (t:Tm) (a:An)
 |jx (t:Tm) (a:An)
 |l (t:Tm) (f:Nat) (a:An)
 |r (a0:Option Nat) (ord:List (Nat×Bool))
 |rj (k:Nat) (t:Tm) (a:An)
 |z (ord:List Nat)
 |y (kb:Bool) (f a0:Option Nat) (ord:List (Nat×Bool))
 |il (i:Nat) (a r:An)
 |w (bs:List Nat) (ord:List (Nat×Bool))
 |v (bs:List Nat) (ord:List (Nat×Bool))
 |u (a0:Option Nat) (bs fs:List Nat) (ord:List (Nat×Bool))
 |pl (a:An)
def bYk:List (Nat×Nat)->Nat->Nat->Nat->Bool
 |[],_,_,_=>false
 |(a,b)::r,p,c,hi=>(Nat.ble (p+a) c&&Nat.ble hi (p+a+b))||bYk r (p+a+b) c hi
def bOt (ws:List (Nat×Nat)):List (Nat×Nat)->Nat->Bool
 |[],_=>true
 |(a,b)::r,p=>(Nat.beq b 0||bYk ws 0 (p+a) (p+a+b))&&bOt ws r (p+a+b)
def anW (ws:List (Nat×Nat)):An->Bool
 | .s a b=>anW ws a&&anW ws b
 | .j t a=>bOt ws t.ws 0&&anW ws a
 | .jx t a=>bOt ws t.ws 0&&anW ws a
 | .l t _ a=>bOt ws t.ws 0&&anW ws a
 | .rj _ t _=>bOt ws t.ws 0
 |_=>true
def An.a:An->An
 | .s a _=>a
 |_=> .n
def An.b:An->An
 | .s _ b=>b
 |_=> .n
def bF {β:Type}(n:Nat)(F:(β->Option α)->β->Option α):β->Option α:=Nat.rec (motive:=λ_=>β->Option α) (λ_=>none) (λ_ b=>F b) n
def aK2 (al:List Oper):List Nat->St U->(St U->Option α)->Option α
 |[],s,K=>K s
 |i::l,s,K=>match nth al i with
  |some o=>grd Y TI FZ al o s λs=>aK2 al l s K
  |none=>none
def aYz (l:List (Nat×Bool)):Bool:=List.rec (motive:=λ_=>Bool) true (λx _ b=>cond x.2 false b) l
def frees (al:List Oper)(a0:Option Nat):List (Nat×Bool)->Bool
 |[]=>true
 |(i,f)::l=>match nth al i with
  |some o=>bif f then Nat.beq (Fg FZ o.op) 0&&frees al a0 l else
   (bif Nat.ble (Fg FZ o.op) 1 then frees al a0 l else(match a0 with|some b=>Nat.beq b i|none=>false)&&aYz l)
  |none=>false
def bQu (l:List (Nat×Bool)):List Nat:=List.rec (motive:=λ_=>List Nat) [] (λx _ b=>x.1::b) l
def aU7 (al:List Oper)(os:Array Oper):An->Option (List Nat)
 | .r a0 ord=>bif bJh os a0 ord&&frees FZ al a0 ord then some (bQu ord) else none
 | .z ord=>bif Region.noSelect os&&(Nat.beq (len ord) (len al)&&chz os ord (Array.replicate os.size false)) then some ord else none
 |_=>none
def aY0 (al:List Oper)(l:List Nat):List Oper:=List.rec (motive:=λ_=>List Oper) [] (λi _ b=>match nth al i with|some o=>o::b|none=>b) l
def aY1:Op->Bool
 | .move _=>true
 | .assign _=>true
 | .extract .. =>true
 |_=>false
def Qs (a:Option Nat)(i:Nat):Bool:=match a with
 |some b=>Nat.beq b i
 |none=>false
def unt:Nat->Nat->List (EO U)->Bool
 |0,_,_=>true
 |_+1,_,[]=>true
 |n+1,k,e::o=>Nat.ble e.cv k&&unt n k o
def unO (kd:Option (Nat×Nat))(o:List (EO U)):Bool:=match kd with
 |some (n,k)=>unt n k o
 |none=>false
def Kr (s:St U):Op->Bool
 | .alloc t=> !aK0 (kG TI t)
 | .buildSlice t n ps=>match kG TI t with
  |some ⟨.sl e ek _,_,_⟩=>Nat.beq (len ps.toList) n&&(Nat.ble (n*ek) 16777216&&(K4 (U:=U) e ek e&&(match aGd Y s e 0 ps.toList with
   |some (_,[],_)=>true
   |_=>false)))
  |_=>false
 |_=>false
def bEl (s:St U)(d:Option Nat):Bool:=match d with
 |some n=>(match nth s.t n with
  |some (.l .any)=>true
  |_=>false)
 |none=>true
def bOu (oj:Oper)(d:Option Nat):Bool:=match d with
 |none=>true
 |some n=>match oj.op with
  | .alloc _=>true
  | .buildSlice _ _ ps=>ps.toList.all λx=>match x.2 with| .tmp m=> !Nat.beq n m|_=>true
  |_=>false
def bVa (oj:Oper)(d:Option Nat):Bool:=(match d with
 |none=>true
 |some n=>(match oj.dst with|some m=> !Nat.beq n m|none=>true))&&bOu oj d
def aUa (al:List Oper)(f:Option Nat)(s:St U):Bool:=match f with
 |some j=>match nth al j with
  |some o=>aK0 o.guard&&(bEl s o.dst&&(bOu o o.dst&&Kr Y TI s o.op))
  |none=>false
 |none=>true
def wpe (al:List Oper)(f:Option Nat)(s:St U):St U:=match f with
 |some j=>match nth al j with
  |some o=>put s o.dst (.l .any)
  |none=>s
 |none=>s
def aK3 (al:List Oper)(a0:Option Nat)(kd:Option (Nat×Nat)):List (Nat×Bool)->Option Nat->Bool->Bool->St U->(St U->Option α)->Option α
 |[],_,_,_,s,K=>K s
 |(i,fl)::l,f,pre,st,s,K=>match nth al i with
  |some o=>bif fl then(bif Nat.beq (Fg FZ o.op) 0&&(aY1 o.op||st) then grd Y TI FZ al o s (λs'=>aK3 al a0 kd l f pre st s' K) else none)
   else bif aUa Y TI al f s then grd Y TI FZ al o s (λs'=>bif !(pre&& !Qs a0 i)||(Nat.ble (Fg FZ o.op) 1||unO kd s'.m.o) then aK3 al a0 kd l (bif Qs f i then none else f) (pre&& !Qs a0 i) (st&&aK0 kd) s' K else none)
   else none
  |none=>none
def tkY (os:Array Oper)(a0:Option Nat)(i:Nat)(c:Array Bool):Bool:=Region.free .any os c i&&(Region.ready .any os c).contains i&&(match a0 with
 |none=>true
 |some b=>b !=i&&(bSv .any os 40 b i||(match os[i]? with|some o=>aY1 o.op|none=>false)))
def a0Y (a0:Option Nat)(i:Nat)(b:Array Bool):Bool:=a0 !=some i|| !gH a0 (b.setIfInBounds i true)
def aP3 (os:Array Oper)(a0:Option Nat):List (Nat×Bool)->Array Bool->Bool
 |[],b=>(Region.ready .any os b).isEmpty
 |(i,true)::r,b=>tkY os a0 i b&&aP3 os a0 r (b.setIfInBounds i true)
 |(i,false)::r,b=>Region.ready .any os b==[i]&&(a0Y a0 i b&&aP3 os a0 r (b.setIfInBounds i true))
def bOv (os:Array Oper)(a0:Option Nat)(oj:Oper)(j:Nat):List (Nat×Bool)->Array Bool->Bool
 |[],_=>false
 |(i,fl)::r,b=>bif Nat.beq i j then !fl&&aP3 os a0 r b else
  ((match os[i]? with|some o=>bVa oj o.dst|none=>false)&&(bif fl then tkY os a0 i b&&bOv os a0 oj j r (b.setIfInBounds i true)
   else Region.ready .any os b==[i]&&(a0Y a0 i b&&bOv os a0 oj j r (b.setIfInBounds i true))))
def bVc (os:Array Oper)(a0:Option Nat)(oj:Oper)(j:Nat):List (Nat×Bool)->Array Bool->Bool
 |[],_=>false
 |(i,fl)::r,b=>bif Nat.beq i j then !fl&&(Region.ready .any os b==[i]&&aP3 os a0 r (b.setIfInBounds i true)) else
  bif fl then tkY os a0 i b&&bVc os a0 oj j r (b.setIfInBounds i true)
  else((Region.ready .any os b==[i]||((Region.ready .any os b==[i,j]||Region.ready .any os b==[j,i])&&bOv os a0 oj j ((i,fl)::r) (b.setIfInBounds j true)))
   &&(a0Y a0 i b&&bVc os a0 oj j r (b.setIfInBounds i true)))
def bJn (os:Array Oper)(f a0:Option Nat)(ord:List (Nat×Bool)):Bool:=Region.noSelect os&&(Nat.beq (len ord) os.size&&(match f with
 |none=>aP3 os a0 ord (Array.replicate os.size false)
 |some j=>a0 !=some j&&(match os[j]? with
  |some oj=>bVc os a0 oj j ord (Array.replicate os.size false)
  |none=>false)))
def stW (bs:List Nat)(s:St U):Op->Bool
 | .store _ x _=>match eG s x with
  | .l (.box b _)=>A7 b bs
  |_=>false
 |_=>false
def noG (o:Oper):Bool:=match o.guard with
 |none=>true
 |some _=>false
def ptW (FZ:List (Nat×Sum U))(bs:List Nat)(s:St U):Op->Bool
 | .call ⟨.value (.func f),c,_⟩=>match kG FZ f,c.toList.map (eG s) with
  |some S, .l (.box b 0)::_=>S.wt&&(S.fr&&A7 b bs)
  |_,_=>false
 |_=>false
def erl (bs:List Nat)(s:St U):Op->Bool
 | .load _ x=>match eG s x with
  | .l (.box b _)=> !A7 b bs
  | .l (.ptr ..)=>true
  |_=>false
 | .fieldAddr .. =>true
 | .pick .. =>true
 | .indexAddr _ x y=>match eG s x,eG s y with
  | .l (.sl ..), .l (.int ..)=>true
  |_,_=>false
 | .binOp b _ x y _=>match b,xW s x,xW s y with
  | .add, .l (.int ..), .l (.int ..)=>true
  | .sub, .l (.int ..), .l (.int ..)=>true
  | .lss, .l (.int ..), .l (.int ..)=>true
  | .leq, .l (.int ..), .l (.int ..)=>true
  | .gtr, .l (.int ..), .l (.int ..)=>true
  | .geq, .l (.int ..), .l (.int ..)=>true
  | .eql, .l (.int ..), .l (.int ..)=>true
  | .neq, .l (.int ..), .l (.int ..)=>true
  |_,_,_=>false
 | .call ⟨.builtin .len,c,_⟩=>match c.toList with
  |[x]=>match eG s x with
   | .l (.sl ..)=>true
   | .l (.own i r)=>match nth s.m.o i with
    |some ⟨.tree ..,rv,_⟩=>Nat.beq rv r
    |_=>false
   |_=>false
  |_=>false
 |op=>aY1 op
def bxs (l:List Nat)(o:List (EO U)):Bool:=List.rec (motive:=λ_=>Bool) true (λb _ c=>match nth o b with|some ⟨.box ..,_,_⟩=>c|_=>false) l
def aY2:Lf U->Bool
 | .int .. =>true
 | .bool _=>true
 | .str _=>true
 | .sl .. =>true
 | .nil=>true
 |_=>false
def aK4 (l:List (Lf U)):Bool:=List.rec (motive:=λ_=>Bool) true (λx _ b=>aY2 x&&b) l
def aHu:Sv U->Bool
 | .l x=>aY2 x
 | .a cs=>aK4 cs
 | .t _=>false
def xM (l:List (Sv U)):Bool:=List.rec (motive:=λ_=>Bool) true (λx _ b=>aHu x&&b) l
def flc (s:St U)(o:Oper)(K:Option α):Option α:=match o.op with
 | .call ⟨.value (.func f),b,_⟩=>match kG FZ f with
  |some S=>match oZ Y s.m S.ar (b.toList.map (eG s)) with
   |some a=>bif !S.wt&&(!S.fr&&xM (b.toList.map (xW s))) then bd (S.m a) λ_=>K else none
   |none=>none
  |none=>none
 |op=>bif Kr Y TI s op then K else none
def bEm (oj:Oper)(d:Option Nat):Bool:=match d with
 |none=>true
 |some n=>match oj.op with
  | .call ⟨.value (.func _),b,_⟩=>b.toList.all λx=>match x with| .tmp m=> !Nat.beq n m|_=>true
  |_=>bOu oj d
def aY3 (oj:Oper)(d:Option Nat):Bool:=(match d with
 |none=>true
 |some n=>(match oj.dst with|some m=> !Nat.beq n m|none=>true))&&bEm oj d
def cA6 (al:List Oper)(s:St U)(fs:List Nat)(K:Option α):Option α:=List.rec (motive:=λ_=>Option α) K (λj _ b=>match nth al j with
  |some o=>bif aK0 o.guard&&(bEl s o.dst&&bEm o o.dst) then flc Y TI FZ s o b else none
  |none=>none) fs
def rmv (i:Nat)(l:List Nat):List Nat:=List.rec (motive:=λ_=>List Nat) [] (λx _ b=>bif Nat.beq x i then b else x::b) l
def wpl (al:List Oper)(s:St U)(fs:List Nat):St U:=List.rec (motive:=λ_=>St U) s (λj _ b=>match nth al j with
 |some o=>put b o.dst (.l .any)
 |none=>b) fs
def erp (s:St U)(op:Op):Bool:=aY1 op||(match op with
 | .binOp .. =>erl [] s op
 |_=>false)
def Qj (al:List Oper)(a0:Option Nat)(bs:List Nat)(kd:Option (Nat×Nat)):List (Nat×Bool)->List Nat->Bool->Bool->St U->(St U->Option α)->Option α
 |[],_,_,_,s,K=>K s
 |(i,fl)::l,fs,st,ps,s,K=>match nth al i with
  |some o=>bif fl then(bif st then bJj al o (λs1=>bif erl bs s1 o.op then one Y TI FZ o s1 (λs'=>Qj al a0 bs kd l fs st ps s' K) else none) s (λs'=>Qj al a0 bs kd l fs st ps s' K) else(bif erp s o.op&&noG o then one Y TI FZ o s (λs'=>Qj al a0 bs kd l fs st ps s' K) else none))
   else(bif noG o then cA6 Y TI FZ al s fs (
    bif Nat.ble (Fg FZ o.op) 1 then one Y TI FZ o s (λs'=>Qj al a0 bs kd l (rmv i fs) false (ps||Qs a0 i) s' K)
    else(bif stW bs s o.op||ptW FZ bs s o.op then one Y TI FZ o s (λs'=>Qj al a0 bs kd l (rmv i fs) false (ps||Qs a0 i) s' K)
    else one Y TI FZ o s (λs'=>bif unO kd s'.m.o||(Qs a0 i||ps) then Qj al a0 bs kd l (rmv i fs) false (ps||Qs a0 i) s' K else none))) else none)
  |none=>none
def aP4 (os:Array Oper)(b:List Nat)(d:Option Nat):Bool:=b.all λj=>match os[j]? with
 |some oj=>aY3 oj d
 |none=>false
def aU8 (os:Array Oper)(a0:Option Nat):Nat->List Nat->List Nat->List (Nat×Bool)->Array Bool->Bool
 |0,_,_,_,_=>false
 |_+1,_,c,[],b=>c.isEmpty&&(Region.ready .any os b).isEmpty
 |n+1,d,c,(i,true)::r,b=>(match os[i]? with|some o=>aP4 os c o.dst|none=>false)&&(tkY os a0 i b&&aU8 os a0 n d c r (b.setIfInBounds i true))
 |n+1,d,c,(i,false)::r,b=>bif A7 i c then(match os[i]? with
   |some o=>aP4 os (rmv i c) o.dst&&(!Qs a0 i&&aU8 os a0 n d (rmv i c) r b)
   |none=>false) else
  ((Region.ready .any os b).contains i&&((Region.ready .any os b).all λj=>bif Nat.beq j i then(match os[i]? with
    |some o=>aP4 os c o.dst&&(a0Y a0 i b&&aU8 os a0 n (rmv i d) c r (b.setIfInBounds i true))
    |none=>false)
   else(A7 j d&&(match os[j]? with
    |some oj=>aP4 os c oj.dst&&aU8 os a0 n (rmv j d) (j::c) ((i,false)::r) (b.setIfInBounds j true)
    |none=>false))))
def rgn (al:List Oper)(os:Array Oper)(d:Bool)(an:An)(s:St U)(N:St U->Option α):Option α:=match an with
 | .rj k tm a=>bif d then(match aU7 FZ al os a with
   |some l=>aK2 Y TI FZ al (tk l k) s λs1=>bif wrG tm.ws al (aY0 al (drp l k)) then bd (aK2 Y TI FZ al (drp l k) s1 λs'=>col Y s1 tm s') λd=>N (reb Y s1 tm d) else none
   |none=>none) else
   ops Y TI FZ al (tk al k) s λs1=>bif wrG tm.ws al (drp al k) then bd (ops Y TI FZ al (drp al k) s1 λs'=>col Y s1 tm s') λd=>N (reb Y s1 tm d) else none
 | .y kb f a0 ord=>bif d&&bJn os f a0 ord then aK3 Y TI FZ al a0 (bif kb then some (len s.m.o,s.m.k) else none) ord f true true (wpe al f s) N else none
 | .w _ _=>none
 | .u a0 bs fs ord=>bif d&&(Region.noSelect os&&(aU8 os a0 (Nat.succ (Nat.add (len ord) (len ord))) fs [] ord (Array.replicate os.size false)&&bxs bs s.m.o)) then Qj Y TI FZ al a0 bs (some (len s.m.o,s.m.k)) ord fs true false (wpl al s fs) N else none
 | .v _ _=>none
 |an=>bif d then(match aU7 FZ al os an with
   |some l=>aK2 Y TI FZ al l s N
   |none=>none) else ops Y TI FZ al al s N
def bYn (s:St U):ResultVar->Option (Sv U)
 | .tmp n=>nth s.t n
 | .cell a t=>match nth s.t a,kG TI t with
  |some (.l (.box b 0)),some i=>match nth s.m.o b with
   |some ⟨.box _ cs _,_,_⟩=>cut i cs 0
   |_=>none
  |_,_=>none
def aK5 (s:St U):List ResultVar->Option (List (Sv U))
 |[]=>some []
 |r::rs=>match bYn TI s r with
  |some x=>match aK5 s rs with
   |some xs=>some (x::xs)
   |none=>none
  |none=>none
abbrev Il:=List (Nat×Code×Nat×List ResultVar)
def sv2:Sv U->Option (Bool×List (Lf U))
 | .l x=>some (false,[x])
 | .a cs=>some (true,cs)
 | .t _=>none
def bOw:List (Sv U)->Option (List (Bool×List (Lf U)))
 |[]=>some []
 |x::xs=>match sv2 x with
  |some y=>match bOw xs with
   |some ys=>some (y::ys)
   |none=>none
  |none=>none
def cA7:List (Sv U)->Option (Sv U)
 |[x]=>some x
 |xs=>match bOw xs with
  |some l=>some (.t l)
  |none=>none
def inl (IL:Il)(EV:An->Code->St U->(St U->Option α)->Option α)(an:An)(o:Oper)(s:St U)(K:St U->Option α):Option α:=match o.op with
 | .call ⟨.value (.func f),b,_⟩=>match kG IL f with
  |some (c,n,rv)=>bif Nat.ble (len b.toList) n then EV an c ⟨b.toList.map (eG s)++List.replicate (n-len b.toList) (.l .any),s.m,s.fr⟩ λs'=>match aK5 TI s' rv with
    |some ys=>match cA7 ys with
     |some y=>K (put ⟨s.t,s'.m,s.fr⟩ o.dst y)
     |none=>none
    |none=>none
   else none
  |none=>none
 |_=>none
def ilo:An->An
 | .il _ _ r=>ilo r
 |an=>an
def ilr (IL:Il)(EV:An->Code->St U->(St U->Option α)->Option α)(al:List Oper):List Nat->An->St U->(St U->Option α)->Option α
 |[],_,s,K=>K s
 |i::l,an,s,K=>match nth al i with
  |some o=>(match an with
   | .il k a r=>bif Nat.beq k i then(bif Nat.beq (Fg FZ o.op) 2 then bJj al o (λs=>inl TI IL EV a o s λs'=>ilr IL EV al l r s' K) s (λs'=>ilr IL EV al l r s' K) else none) else grd Y TI FZ al o s λs'=>ilr IL EV al l (.il k a r) s' K
   |an=>grd Y TI FZ al o s λs'=>ilr IL EV al l an s' K)
  |none=>none
def ilY (IL:Il)(EV:An->Code->St U->(St U->Option α)->Option α)(al:List Oper)(a0:Option Nat):List (Nat×Bool)->An->Bool->Bool->St U->(St U->Option α)->Option α
 |[],_,_,_,s,K=>K s
 |(i,fl)::l,an,pre,st,s,K=>match nth al i with
  |some o=>bif fl then(bif Nat.beq (Fg FZ o.op) 0&&(aY1 o.op||st) then grd Y TI FZ al o s (λs'=>ilY IL EV al a0 l an pre st s' K) else none)
   else(match an with
    | .il k b r=>bif Nat.beq k i then(bif Nat.beq (Fg FZ o.op) 2&& !(pre&& !Qs a0 i) then bJj al o (λs=>inl TI IL EV b o s λs'=>ilY IL EV al a0 l r false st s' K) s (λs'=>ilY IL EV al a0 l r false st s' K) else none)
     else grd Y TI FZ al o s (λs'=>bif !(pre&& !Qs a0 i)||(Nat.ble (Fg FZ o.op) 1||unO none s'.m.o) then ilY IL EV al a0 l (.il k b r) (pre&& !Qs a0 i) (st&&aK0 (none:Option (Nat×Nat))) s' K else none)
    |an=>grd Y TI FZ al o s (λs'=>bif !(pre&& !Qs a0 i)||(Nat.ble (Fg FZ o.op) 1||unO none s'.m.o) then ilY IL EV al a0 l an (pre&& !Qs a0 i) (st&&aK0 (none:Option (Nat×Nat))) s' K else none))
  |none=>none
def rng:Nat->Nat->List Nat
 |0,_=>[]
 |n+1,i=>i::rng n (Nat.succ i)
def plT (FZ:List (Nat×Sum U)):List (Nat×Sum U):=FZ.map λp=>(p.1,⟨p.2.ar,p.2.rs,p.2.fr&&p.2.wt,p.2.wt,p.2.m⟩)
def bS6 (IL:Il)(EV:An->Code->St U->(St U->Option α)->Option α)(al:List Oper)(os:Array Oper)(d:Bool)(an:An)(s:St U)(N:St U->Option α):Option α:=match an with
 | .il k a r=>match ilo r with
  | .y _ _ a0 ord=>bif d&&bJn os none a0 ord then ilY Y TI FZ IL EV al a0 ord (.il k a r) true true s N else none
  |_=>match(bif d then aU7 FZ al os (ilo r) else some (rng (len al) 0)) with
   |some l=>ilr Y TI FZ IL EV al l (.il k a r) s N
   |none=>none
 | .pl a=>match a with
  | .r a0 ord=>rgn Y TI (plT FZ) al os d (.r a0 ord) s N
  | .y kb f0 a0 ord=>rgn Y TI (plT FZ) al os d (.y kb f0 a0 ord) s N
  |_=>rgn Y TI (plT FZ) al os d .n s N
 |an=>rgn Y TI FZ al os d an s N
def cC4:An->Bool
 | .l .. =>true
 | .s .. =>true
 |_=>false
variable (IL:Il)
def ev:Nat->An->Code->(α:Type)->St U->(St U->Option α)->(Nat->St U->Option α)->(St U->Option α)->Option α
 |0,_,_,_,_,_,_,_=>none
 |f+1, .j tm a,c,α,s,N,_,_=>bif wr tm.ws f c&&anW tm.ws a then bd (ev f a c (Dat U tm.it) s (λs'=>col Y s tm s') (λ_ _=>none) (λ_=>none)) λd=>N (reb Y s tm d) else none
 |f+1, .jx tm a,c,α,s,N,X,R=>bif wr tm.ws f c&&anW tm.ws a then nx (ev f a c (α⊕Dat U tm.it) s (λs'=>bd (col Y s tm s') λd=>some (.inr d)) (λi s'=>bd (X i s') λr=>some (.inl r)) (λs'=>bd (R s') λr=>some (.inl r))) λd=>N (reb Y s tm d) else none
 |f+1,an, .seq a b,α,s,N,X,R=>ev f an.a a α s (λs'=>ev f an.b b α s' N X R) X R
 |f+1,an, .cond c a b,α,s,N,X,R=>match c with
  | .tmp n=>tst n s (λs=>ev f an.a a α s N X R) (λs=>ev f an.b b α s N X R)
  |_=>none
 |f+1,an, .block id c,α,s,N,X,R=>ev f an.a c α s N (λi s'=>bif Nat.beq i id then N s' else X i s') R
 |f+1, .l tm n a, .loop c,α,s,_,X,R=>bif wr tm.ws f c&&anW tm.ws a then bd (col Y s tm s) (bF n λrec d=>ev f a c α (reb Y s tm d) (λs'=>bd (col Y s tm s') rec) X R) else none
 |f+1, .s a b, .loop c,α,s,N,X,R=>bif cC4 b then ev f a c α s (λs'=>ev f b (.loop c) α s' N X R) X R else none
 |_+1,_, .skip,_,s,N,_,_=>N s
 |_+1,_, .ret,_,s,_,_,R=>R s
 |_+1,_, .exit i,_,s,_,X,_=>X i s
 |f+1,an, .region _ os d,α,s,N,_,_=>bS6 Y TI FZ IL (λa c s K=>ev f a c α s K (λ_ _=>none) K) os.toList os d an s N
 |_+1,_,_,_,_,_,_,_=>none
def aU9 (m:Mm U):List (Lf U)->Option (List Nat)
 |[]=>some []
 | .own i r::xs=>match nth m.o i with
  |some ⟨.tree _ d _,rv,_⟩=>bif Nat.beq rv r&&d then(match aU9 m xs with
   |some l=>some (i::l)
   |none=>none) else none
  |_=>none
 |x::xs=>match x with
  | .sl .. =>none
  | .bor .. =>none
  | .inn .. =>none
  |_=>aU9 m xs
def bS7 (m:Mm U):List (Sv U)->Option (List Nat)
 |[]=>some []
 |x::xs=>match parts x with
  |some cs=>match aU9 m cs with
   |some l=>match bS7 m xs with
    |some l'=>some (l++l')
    |none=>none
   |none=>none
  |none=>none
def fin (fr:Bool)(ks:List Kd)(rs:List ResultVar)(s:St U):Option (fM U ks):=match aK5 TI s rs with
 |some xs=>bif fr then(match bS7 s.m xs with
  |some l=>bif dist l&&aYx (U:=U) ks then oZ Y s.m ks xs else none
  |none=>none) else oZ Y s.m ks xs
 |none=>none
def ini (n:Nat)(ks:List Kd)(a:fM U ks):St U:=
 let l:=(bG Y ks a).map bU6
 ⟨l++List.replicate (n-len l) (.l .any),⟨[],0,[]⟩,[]⟩
def evF (an:An)(c:Code)(n:Nat)(ar rs:List Kd)(fr:Bool)(rv:List ResultVar)(a:fM U ar):Option (fM U rs):=
 ev Y TI FZ IL 1000 an c (fM U rs) (ini Y n ar a) (fin Y TI fr rs rv) (λ_ _=>none) (fin Y TI fr rs rv)
end
end Go.EV
namespace Go.EV
open Go.RowKit Go.VK
section lists
variable {α:Type}
theorem aR:∀(l:List α) (n:Nat),nth l n=l[n]?
 |[],n=>by cases n<;>rfl
 |x::l,0=>rfl
 |x::l,n+1=>by rw[e9];exact aR l n
theorem cK:∀(l:List α) (n:Nat) (y:α),upd l n y=l.set n y
 |[],n,y=>by cases n<;>rfl
 |x::l,0,y=>rfl
 |x::l,n+1,y=>by rw[fo,<-cK l n y];rfl
theorem aP5:∀(l:List α) (n:Nat),drp l n=l.drop n
 |[],n=>by cases n<;>rfl
 |x::l,0=>rfl
 |x::l,n+1=>by rw[fk];exact aP5 l n
theorem bG8:∀(l:List α) (n:Nat),tk l n=l.take n
 |[],n=>by cases n<;>rfl
 |x::l,0=>rfl
 |x::l,n+1=>by rw[gj,<-bG8 l n];rfl
theorem bL:∀(l:List α),len l=l.length
 |[]=>rfl
 |x::l=>by rw[aw,<-bL l];rfl
theorem Wn:∀(l:List α) (n:Nat) (vs:List α),n+vs.length<=l.length->spl l n vs=l.take n++vs++l.drop (n+vs.length)
 |[],n,vs,h=>by
  have h1:vs=[]:=cj (by simp only[bj] at h;omega);subst h1;cases n<;>rfl
 |x::l,0,vs,h=>by
  show vs++drp (x::l) (len vs)=_;rw[aP5,bL];simp
 |x::l,n+1,vs,h=>by
  show x::spl l n vs=_;rw[Wn l n vs (by simp at h;omega),show n+1+vs.length=(n+vs.length)+1 by omega];rfl
def bZ5:∀{l:List α} {n:Nat} {x:α},l[n]? =some x->At l n x
 |[],n,x,h=>by simp at h
 |y::l,0,x,h=>by simp at h;subst h;exact .z
 |y::l,n+1,x,h=> .s (bZ5 (by simpa using h))
def bJo {l:List (Nat×α)}{n:Nat}{x:α}(h:kG l n=some x):(n,x)∈l:=by
 induction l with
 |nil=>cases h
 |cons y l d=>
  have c:cond (Nat.beq y.1 n) (some y.2) (kG l n)=some x:=h;cases hb:Nat.beq y.1 n with
  |true=>rw[hb] at c;obtain⟨a,b⟩:=y;have:a=n:=ai hb;simp at c;subst c;subst this;exact dT
  |false=>rw[hb] at c;exact eh _ (d c)
end lists
variable {U:Uni} {Y:Lay U} {P:Program} {g:GI} {E:Env U g}
structure bB (C:Cod U) (E:Env U g) (s:St U) (a:Act) (w:World) (β:List Tr):Prop where
 hp:Hp C E s.m β w
 defers:a.defers=[]
 tsz:a.tmps.size=s.t.length
 tm:∀(n:Nat) (x:Sv U),s.t[n]? =some x->x.mean C w (E.X β) β s.m (a.tmps.getD n undef)
section
variable {C:Cod U} {s:St U} {a:Act} {w w':World} {β β':List Tr}
def bB.put (r:bB C E s a w β){d:Option Nat}{x:Sv U}{v:Value}(h:d≠none->x.mean C w (E.X β) β s.m v):bB C E (put s d x) (a.put d v) w β:=by
 cases d with
 |none=>exact r
 |some n=>
  refine⟨r.hp,r.defers,?_,λm y hm=> ?_⟩
  ·simp only[EV.put,cK,ay];simpa[Act.put] using r.tsz
  ·simp only[EV.put,cK] at hm ⊢;have b:m<s.t.length:=by have:=lt_of_some hm;simpa using this
   simp only[Act.put];by_cases hn:n<s.t.length
   ·rw[Fa _ _ _ _ _ (by rw[r.tsz];exact hn)];by_cases he:n=m
    ·subst he;rw[bm hn] at hm;injection hm with hm;rw[cu rfl,<-hm];exact h (by simp)
    ·rw[bg he] at hm;rw[cG he];exact r.tm m y hm
   ·rw[iS (by omega)] at hm;have:(a.tmps.setIfInBounds n v)=a.tmps:=by apply ee;rw[r.tsz];omega
    rw[this];exact r.tm m y hm
def bB.go (r:bB C E s a w β){m':Mm U}(h:Hp C E m' β' w')(he:Evo w w' (E.X β) (E.X β') β β' s.m m' s.m.o.length s.m.ns.length s.m.k){fr:List (List (Sv U))}:bB C E ⟨s.t,m',fr⟩ a w' β':=
 ⟨h,r.defers,r.tsz,λn x b=>Sv.aAV he (r.tm n x b)⟩
def Evo.ext (he:Ext w w'){m:Mm U}(H:Hp C E m β w):Hp C E m β w'/\Evo w w' (E.X β) (E.X β) β β m m m.o.length m.ns.length m.k:=by
 have ev:Evo w w' (E.X β) (E.X β) β β m m m.o.length m.ns.length m.k:=⟨he.size,λ_ _ h=>h,λ_ _ _ h=>he.cell h,ao _,λa i f _ h=>⟨f,h⟩,λi e t _ h1 h2=>⟨e,t,h1,h2,λ_=>⟨rfl,rfl⟩,λ_=>⟨rfl,rfl,rfl,λb hb=>he.block b (H.new i t b h2 hb).2⟩,λh=>⟨h,rfl⟩⟩⟩;refine⟨⟨H.ext.trans (Bel.aBJ he),H.len,H.vers,H.cnt,λi t b h1 h2=>⟨(H.new i t b h1 h2).1,ca (H.new i t b h1 h2).2 he.size⟩,H.dist,H.nd,λi t e h1 h2=>Ob.aBE ev (H.ok i t e h1 h2) λb hb=>he.block b (H.new i t b h1 hb).2,λx c=>Sv.aAV ev (H.pin x c),λx c=> ?_,λf j=> ?_⟩,ev⟩
 ·obtain⟨h1,h2,d,l⟩:=H.prm x c;exact⟨h1,(he.block _ (bz.1 h2).1).trans h2,d,l⟩
 ·obtain⟨h1,h2,h0,d⟩:=H.fr f j;exact⟨h1,h2,bo h0 he.size,d.imp id λq=>⟨q.1.trans he,q.2⟩⟩
def bB.ext (r:bB C E s a w β)(he:Ext w w'):bB C E s a w' β:=by obtain⟨h1,h2⟩:=Evo.ext he r.hp;exact r.go h1 h2
def bVe {X:Nat->Prop}{m:Mm U}{v:Value}{x:Lf U}(h:x.mean C w X β m v):(rsv m.ns x).mean C w X β m v:=by
 cases x with
 |nat a=>obtain⟨i,f,h1,h2,b⟩:=h;simp only[rsv,aR,h1];exact⟨h2,by simp[IntKind.min,IntKind.signed,IntKind.bits],by simpa[IntKind.max,IntKind.signed,IntKind.bits] using b⟩
 |lt a n=>obtain⟨i,f,h1,h2,b⟩:=h;simp only[rsv,aR,h1];exact h2
 |_=>exact h
theorem nM {τ τ':Nat}{l:List (U.El τ')}{l':List (U.El τ)}(h:slq τ τ' l=some l'):τ'=τ/\HEq l l':=by
 unfold slq at h;split at h
 ·rename_i he;subst he;simp at h;subst h;exact⟨rfl,HEq.rfl⟩
 ·cases h
def bYo {τ τ':Nat}{l:List (U.El τ')}{l':List (U.El τ)}(h:slq τ τ' l=some l'):Lf.sl τ' l=Lf.sl τ l':=by obtain⟨rfl,h⟩:=nM h;rw[dv h]
def Hp.tree (H:Hp C E s.m β w){i:Nat}{t:Tr}{e:EO U}{τ:Nat}{d:Bool}{l:List (U.El τ)}(h1:β[i]? =some t)(h2:s.m.o[i]? =some e)(b:e.ob= .tree τ d l):Ow C w (E.X β) d t.val (.sl τ l) t.all:=by have:=H.ok i t e h1 h2;rw[b] at this;obtain⟨c,xs,f,h⟩:=this;exact .sl t c f h
def cC5 {b:Nat}{i:Nat}{t:Tr}(h1:β[i]? =some t)(h2:b∈t.all):E.X β b:= .inr (.inr ⟨t,ba h1,h2⟩)
def cE4:Lf U->Option Nat
 | .own i _=>some i
 | .bor i _ _ _=>some i
 | .inn i _ _ _ _ _ _ _=>some i
 |_=>none
def Fz (β:List Tr)(Z:Nat->Prop)(x:Lf U):Prop:=∀(i:Nat) (t:Tr) (b:Nat),cE4 x=some i->β[i]? =some t->b∈t.all->¬Z b
def Fz.of {Z:Nat->Prop}{x:Lf U}(h:pE x=true\/∀(i:Nat) (t:Tr) (b:Nat),β[i]? =some t->b∈t.all->¬Z b):Fz β Z x:=λi t b ho ht hb=>by
 rcases h with h|h
 ·cases x<;>first|(cases ho;done)|(cases h;done)
 ·exact h i t b ht hb
theorem bG9 (H:Hp C E s.m β w){v:Value}{x y:Lf U}(hm:x.mean C w (E.X β) β s.m v)(h:uQ s.m x=some y){Z:Nat->Prop}(F:∀b,Z b->E.X β b)(p:Fz β Z x):
  y.aBB=true/\Rd w Z [] v y.toV:=by
 have G:∀b,b<w.heap.size->Z b->E.X β b:=λb _ hb=>F b hb;cases x with
 |int k n=>simp only[uQ,aj] at h;subst h;obtain⟨rfl,h1,h2⟩:=hm;exact⟨rfl, .int h1 h2⟩
 |bool b=>simp only[uQ,aj] at h;subst h;obtain rfl:=hm;exact⟨rfl, .bool⟩
 |str z=>simp only[uQ,aj] at h;subst h;obtain⟨rfl,h1⟩:=hm;exact⟨rfl, .str h1⟩
 |sl τ l=>simp only[uQ,aj] at h;subst h;exact⟨rfl,Rd.conv hm (ao _) G (λ_ _ _ h=>h) (λ_ _ h=>h)⟩
 |nat a=>obtain⟨i,f,h1,rfl,o⟩:=hm;simp only[uQ,aR,h1,aj] at h;subst h;exact⟨rfl, .int (by simp[IntKind.min,IntKind.signed,IntKind.bits]) (by simpa[IntKind.max,IntKind.signed,IntKind.bits] using o)⟩
 |lt a n=>obtain⟨i,f,h1,rfl,o⟩:=hm;simp only[uQ,aR,h1,aj] at h;subst h;exact⟨rfl, .bool⟩
 |own i r=>
  obtain⟨_,e,t,h2,o,B⟩:=hm;simp only[uQ,aR,h2] at h;obtain⟨ob,rv,cv⟩:=e;cases ob with
  |tree τ d l=>
   cases hb:Nat.beq rv r with
   |false=>simp[hb] at h
   |true=>simp only[hb,ae,aj] at h;subst h;rw[B (ai hb)];exact⟨rfl,(Hp.tree H o h2 rfl).rd F (λb hb'=>p i t b rfl o hb')⟩
  |_=>cases h
 |bor i c τ l=>
  obtain⟨_,e,t,h2,o,B⟩:=hm;simp only[uQ,okv,aR,h2] at h;cases hb:Nat.beq e.cv c with
  |false=>simp[hb] at h
  |true=>simp only[hb,ae,aj] at h;subst h;refine⟨rfl,(B (ai hb)).conv (ao _) (λb _ hb'=>⟨F b hb',λI=>p i t b rfl o I hb'⟩) (λ_ _ _ h=>h) (λ_ _ h=>h)⟩
 |inn i c τ q z j τ' l=>
  obtain⟨_,e,t,h2,o,B⟩:=hm;simp only[uQ,okv,aR,h2] at h;cases hb:Nat.beq e.cv c with
  |false=>simp[hb] at h
  |true=>
   simp only[hb,ae,aj] at h;subst h;obtain⟨d,L,xs,S,a2,T,Q,R,V⟩:=B (ai hb);have D:=H.ok i t e o h2;rw[S] at D;obtain⟨k1,J,k2,k3⟩:=D;obtain rfl:J=xs:=by
    rcases eF k2 with⟨b1,W,b3,_⟩|⟨b,cur,b1,_,_,_,b5,_,b7⟩
    ·rw[b3];have:=R.1;rw[W] at this;simp at this;exact this.symm
    ·rcases eF R with⟨u,_⟩|⟨b',cur',u,_,_,_,A,_,c7⟩
     ·rw[b1] at u;cases u
     ·rw[b1] at u;injection u with u;subst u;rw[b5] at A;injection A with A;injection A with A;subst A;rw[<-b7,<-c7]
   obtain⟨l1,l2,g1,g2,g3,g4⟩:=aKy (C.hlen τ) T;have O:(L.map (C.cel τ)).flatten[q.toNat*U.K τ+j]? =some (.sl τ' l):=by rw[g3,<-g4,ax (dc _ _),cC,aq (lt_of_some Q)];exact Q
   have:=(k3.rd F (λb hb'=>p i t b rfl o (by simp[Tr.all,hb']))).2 _ _ _ V O;exact⟨rfl,this⟩
 |_=>cases h
def Qw (H:Hp C E s.m β w){v:Value}{x y:Lf U}(hm:x.mean C w (E.X β) β s.m v)(h:uQ s.m x=some y){Z:Nat->Prop}(d:∀b,Z b->E.X β b)(c:pE x=true\/∀(i:Nat) (t:Tr) (b:Nat),β[i]? =some t->b∈t.all->¬Z b):
  y.aBB=true/\Rd w Z [] v y.toV:=bG9 H hm h d (Fz.of c)
end
end Go.EV
namespace Go.EV
open Go.RowKit Go.VK
def kzB:Value->Kz->Bool
 | .int k n, .int c=>decide (k=c)&&decide (n=0)&&decide (k.min<=0)&&decide (0<=k.max)
 | .bool b, .bool=> !b
 | .string s, .str=>Nat.beq s.data.size 0
 | .slice none 0 0, .nil=>true
 |_,_=>false
def bOx:List Value->List Kz->Bool
 |[],[]=>true
 |v::vs,z::b=>kzB v z&&bOx vs b
 |_,_=>false
def fsB (P:Program)(t:Nat):Nat->List (Nat×Nat×Nat)->Bool
 |_,[]=>true
 |f,(off,ft,n)::l=>(bUw P t f off&&bS1 P t f ft off&&(match P.info? ft with|some j=>j.size==n|none=>false))&&fsB P t (f+1) l
def bJp:List (Nat×Nat)->List (Nat×Nat×Nat)->Bool
 |[],[]=>true
 |(a,b)::l,(off,_,n)::l'=>Nat.beq a off&&Nat.beq b n&&bJp l l'
 |_,_=>false
def arB (P:Program)(t k:Nat):Bool:=match P.underlying t with
 |some (.array n e)=>Nat.beq n k&&(match P.info? e with|some j=>Nat.beq j.size 1|none=>false)
 |_=>false
def bYp {P:Program}{t k j:Nat}{w:World}(h:arB P t k=true)(f:j<k)(b:Addr)(l:IntKind):(Instr.indexAt t (.pointer (some b)) (.int l (j:Int))).run P w= .ok (.pointer (some (b.add j))) w:=by
 unfold arB at h;cases c:P.underlying t with
 |none=>simp_all
 |some d=>
  cases d<;>simp[c] at h;rename_i n e;obtain⟨h1,h2⟩:=h;cases hi:P.info? e with
  |none=>simp_all
  |some i=>simp[hi] at h2;subst h1;simp[Instr.indexAt,asIntOf,run_underlying c,Instr.sureAddr,sizeOf,typeInfo,hi,h2,f]
def Qk (P:Program)(f:Field):Bool:=match P.underlying f.type with
 |some (.int _)=>true
 |some .bool=>true
 |some .string=>true
 |_=>false
def Yf (P:Program)(t:Nat):Bool:=match P.underlying t with
 |some (.int _)=>true
 |some .bool=>true
 |some .string=>true
 |some (.struct fds)=>fds.toList.all (Qk P)
 |_=>false
def cA8 (P:Program)(t:Nat):Bool:=match P.underlying t with
 |some (.struct fds)=> !(fds.toList.all λf=>Yf P f.type)||(!P.eqGuardType P.depth t&&(!P.stoodInHeld t&&fds.toList.all λf=>f.name != "_"))
 |_=>true
def tiB (P:Program)(t:Nat)(i:TInfo):Bool:=
 (match i.u with
 | .int k=>(match P.underlying t with|some (.int b)=>decide (b=k)|_=>false)&&J7 P t&&Nat.beq i.k 1
 | .bool=>(match P.underlying t with|some .bool=>true|_=>false)&&J7 P t&&Nat.beq i.k 1
 | .str=>(match P.underlying t with|some .string=>true|_=>false)&&J7 P t&&Nat.beq i.k 1
 | .sl e ek eb=>slB P t e ek eb&&J7 P t&&Nat.beq i.k 1
 | .st fs=>(bSu P t i.k&&cA8 P t)&&fsB P t 0 fs&&(match fs with|[]=>arB P t i.k|_=>(match aYp P t with|some l=>bJp l fs|none=>false)))&&
 (match P.info? t with|some j=>(match j.zero with|some z=>bOx z.cells.toList i.z|none=>false)|none=>false)
def uS (P:Program)(TI:List (Nat×TInfo)):Bool:=TI.all λx=>tiB P x.1 x.2
section
variable {P:Program} {TI:List (Nat×TInfo)}
def bM (h:uS P TI=true){t:Nat}{i:TInfo}(b:kG TI t=some i):tiB P t i=true:=by have:=cI.1 h _ (bJo b);exact this
def K5 {t:Nat}{i:TInfo}{k:IntKind}(h:tiB P t i=true)(b:i.u= .int k):P.underlying t=some (.int k)/\J7 P t=true/\i.k=1:=by
 grind[Nat.eq_of_beq_eq_true,tiB]
def aK6 {t:Nat}{i:TInfo}(h:tiB P t i=true)(b:i.u= .bool):P.underlying t=some .bool/\J7 P t=true/\i.k=1:=by
 grind[Nat.eq_of_beq_eq_true,tiB]
def Wp {t:Nat}{i:TInfo}(h:tiB P t i=true)(b:i.u= .str):P.underlying t=some .string/\J7 P t=true/\i.k=1:=by
 grind[Nat.eq_of_beq_eq_true,tiB]
def Kt {t:Nat}{i:TInfo}{e ek eb:Nat}(h:tiB P t i=true)(b:i.u= .sl e ek eb):slB P t e ek eb=true/\J7 P t=true/\i.k=1:=by
 grind[Nat.eq_of_beq_eq_true,tiB]
def aK7 {t:Nat}{i:TInfo}{fs:List (Nat×Nat×Nat)}(h:tiB P t i=true)(b:i.u= .st fs):bSu P t i.k=true/\fsB P t 0 fs=true/\((fs≠[]/\∃l,aYp P t=some l/\bJp l fs=true)\/(fs=[]/\arB P t i.k=true)):=by
 grind[aYp,inl,tiB]
def cC6 {t:Nat}{i:TInfo}{fs:List (Nat×Nat×Nat)}(h:tiB P t i=true)(b:i.u= .st fs):cA8 P t=true:=by
 grind[tiB]
def aX7 {t:Nat}{i:TInfo}(h:tiB P t i=true):∃j z,P.info? t=some j/\j.zero=some z/\bOx z.cells.toList i.z=true:=by
 grind[tiB]
def aY4 {t:Nat}:∀{fs:List (Nat×Nat×Nat)} {f n off ft k:Nat},fsB P t f fs=true->fs[n]? =some (off,ft,k)->bUw P t (f+n) off=true/\bS1 P t (f+n) ft off=true/\∃j,P.info? ft=some j/\j.size=k
 |[],f,n,off,ft,k,h,hn=>by simp at hn
 |(a,b,c)::fs,f,0,off,ft,k,h,hn=>by
  simp at hn;obtain⟨rfl,rfl,rfl⟩:=hn;simp only[fsB,ab] at h;refine⟨h.1.1.1,h.1.1.2,?_⟩;cases d:P.info? b with
  |none=>simp[d] at h
  |some j=>simp[d] at h;exact⟨j,rfl,h.1.2⟩
 |(a,b,c)::fs,f,n+1,off,ft,k,h,hn=>by
  simp only[fsB,ab] at h;have:=aY4 (f:=f+1) (n:=n) h.2 (by simpa using hn);rw[show f+(n+1)=f+1+n by omega];exact this
end
variable {U:Uni} {Y:Lay U} {TI:List (Nat×TInfo)} {P:Program} {g:GI} {E:Env U g}
noncomputable def lv (m:Mm U)(fr:Bool)(x:Lf U):V:=match x with
 | .nil=> .nil
 |x=>bif fr&& !pE x then .any else match uQ m x with
  |some y=>y.toV
  |none=> .any
noncomputable def vw (m:Mm U)(fr:Bool):Sv U->V
 | .l x=>lv m fr x
 | .a cs=> .agg (cs.map (lv m fr))
 | .t _=> .any
section
variable {C:Cod U} {s:St U} {a:Act} {w w':World} {β β':List Tr}
theorem bQw (H:Hp C E s.m β w){v:Value}{x:Lf U}(hm:x.mean C w (E.X β) β s.m v)(fr:Bool){Z:Nat->Prop}(c:∀b,Z b->fr=true/\E.X β b):Rd w Z [] v (lv s.m fr x):=by
 have go:Rd w Z [] v (bif fr&& !pE x then .any else match uQ s.m x with|some y=>y.toV|none=> .any):=by
  cases fr with
  |false=>
   simp only[ir,ac];cases hr:uQ s.m x with
   |none=>exact .any
   |some y=>exact(Qw H hm hr (λb hb=>(c b hb).2) (.inr λ_ _ b _ _ hb=>by cases(c b hb).1)).2
  |true=>
   cases d:pE x with
   |false=>exact .any
   |true=>
    simp only[ah,dm,ac];cases hr:uQ s.m x with
    |none=>exact .any
    |some y=>exact(Qw H hm hr (λb hb=>(c b hb).2) (.inl d)).2
 cases x with
 |nil=>obtain rfl:=hm;exact .nil
 |_=>exact go
noncomputable def Zf (E:Env U g)(β:List Tr)(fr:Bool)(b:Nat):Prop:=fr=true/\E.X β b
noncomputable def brE (H:Hp C E s.m β w)(fr:Bool):VK.Env P g:=⟨Zf E β fr,w,λb hb=>H.aBZ b hb.2,H.gw⟩
noncomputable def brS (s:St U)(fr:Bool):VK.S:=⟨s.t.map (vw s.m fr),[]⟩
def br (r:bB C E s a w β)(fr:Bool):RelB (brE (P:=P) r.hp fr) (brS s fr) [] a w where
 ext:=Ext.refl w
 defers:=r.defers
 tsz:=by simp[brS,r.tsz]
 tmps:=λn W d=>by
  simp only[brS,bq] at d;cases e:s.t[n]? with
  |none=>simp_all
  |some x=>
   simp only[e,da,aj] at d;subst d;have hm:=r.tm n x e;have f:∀b,(brE (P:=P) r.hp fr).X [] b->fr=true/\E.X β b:=λb hb=>by
    rcases hb with hb|⟨t,ht,_⟩
    ·exact hb
    grind
   cases x with
   |l y=>exact bQw r.hp hm fr f
   |t xs=>exact .any
   |a cs=>
    obtain⟨vs,h1,h2,h⟩:=hm;rw[h1];refine .agg (by simp[h2]) (λi v c k1 k2=> ?_)
    grind[k2,Option.some.injEq,bQw,k1]
 blen:=rfl
 new:=by simp
 dist:=by simp
 objs:=by simp[brS]
def bVf {E':VK.Env P g}{S:VK.S}{v:Value}{m:Mm U}{fr:Bool}:VK.Ev E' S (.const v) (vw m fr (bLt v)):=by
 have any:∀v,VK.Ev E' S (.const v) .any:=λv _ _ _ _=> .any;unfold bLt;split
 ·rename_i k n;cases h:bLs k n with
  |false=>cases fr<;>exact any _
  |true=>
   simp only[ae,vw,lv,pE,ah,dm,ac,uQ,Lf.toV];refine .i ?_
   grind[bLs]
 ·simp only[vw,lv,pE,ah,dm,ac,uQ,Lf.toV];exact .b
 ·rename_i z;cases h:Nat.ble (len z.data.toList) 1000 with
  |false=>cases fr<;>exact any _
  |true=>simp only[ae,vw,lv,pE,ah,dm,ac,uQ,Lf.toV];refine .s ?_;simp_all[au,bL,cT,aE]
 ·exact .n
 ·cases fr<;>exact any _
theorem bJq {E':VK.Env P g}{fr:Bool}{x:Operand}:VK.Ev E' (brS s fr) x (vw s.m fr (xW s x)):=by
 have any:∀x,VK.Ev E' (brS s fr) x .any:=λx _ _ _ _=> .any;cases x with
 |tmp n=>
  simp only[xW,aR];cases h:s.t[n]? with
  |none=>cases fr<;>exact any _
  |some y=>exact .t (bZ5 (by simp[brS,h]))
 |const v=>exact bVf
 |_=>cases fr<;>exact any _
def bOy {X:Nat->Prop}{m:Mm U}{v:Value}:(bLt v:Sv U).mean C w X β m v:=by
 unfold bLt;split
 ·rename_i k n;cases h:bLs k n with
  |false=>trivial
  |true=>simp only[bLs,ab,cg] at h;exact⟨rfl,h⟩
 ·rfl
 ·rename_i z;cases h:Nat.ble (len z.data.toList) 1000 with
  |false=>trivial
  |true=>have:=aE h;rw[bL,cT] at this;refine⟨rfl,?_⟩;simp_all[maxLen];omega
 ·rfl
 ·trivial
def jR (r:bB C E s a w β){x:Operand}:(xW s x).mean C w (E.X β) β s.m (a.eval x):=by
 cases x with
 |tmp n=>
  simp only[xW,aR];cases h:s.t[n]? with
  |none=>trivial
  |some y=>exact r.tm n y h
 |const v=>exact bOy
 |_=>trivial
theorem Qx (r:bB C E s a w β){x:Operand}:(eG s x).mean C w (E.X β) β s.m (a.eval x):=by
 have:=jR r (x:=x);unfold eG;cases h:xW s x with
 |l y=>rw[h] at this;exact bVe this
 |_=>simp_all
def bZ6:Lf U->Bool
 | .int .. =>true
 | .bool _=>true
 | .str _=>true
 |_=>false
def bVg {x:Operand}{y:Lf U}(h:eG s x= .l y)(c:bZ6 y=true)(fr:Bool):vw s.m fr (xW s x)=y.toV:=by
 unfold eG at h;cases ho:xW s x with
 |l z=>
  simp only[ho,Sv.l.injEq] at h;simp only[vw];cases z with
  |nat a=>
   simp only[rsv,aR] at h;cases hn:s.m.ns[a]? with
   |none=>simp only[hn] at h;subst h;cases c
   |some p=>grind[lv,pE,uQ,aR]
  |lt a n=>
   simp only[rsv,aR] at h;cases hn:s.m.ns[a]? with
   |none=>simp only[hn] at h;subst h;cases c
   |some p=>grind[lv,pE,uQ,aR]
  |int k n=>grind[lv,pE,uQ,rsv]
  |bool b=>grind[lv,pE,uQ,rsv]
  |str b=>grind[lv,pE,uQ,rsv]
  |_=>simp only[rsv] at h;subst h;cases c
 |_=>simp_all
def bJr {E':VK.Env P g}{x:Operand}{y:Lf U}(h:eG s x= .l y)(b:bZ6 y=true)(fr:Bool):VK.Ev E' (brS s fr) x y.toV:=by rw[<-bVg h b fr];exact bJq
theorem dI {E':VK.Env P g}{x:Operand}{k:IntKind}{n:Int}(h:eG s x= .l (.int k n))(fr:Bool:=false):VK.Ev E' (brS s fr) x (.int k n):=bJr h rfl fr
theorem bJs {E':VK.Env P g}{x:Operand}{b:Bool}(h:eG s x= .l (.bool b))(fr:Bool:=false):VK.Ev E' (brS s fr) x (.bool b):=bJr h rfl fr
def Wq {E':VK.Env P g}{x:Operand}{z:ByteArray}(h:eG s x= .l (.str z))(fr:Bool:=false):VK.Ev E' (brS s fr) x (.str z):=bJr h rfl fr
def bZ7 {E':VK.Env P g}{x:Operand}{p:Lf U}{τ:Nat}{l:List (U.El τ)}(h:eG s x= .l p)(hr:uQ s.m p=some (.sl τ l)):VK.Ev E' (brS s false) x (.slice (U.K τ) (l.map (U.enc τ))):=by
 have hv:vw s.m false (xW s x)= .slice (U.K τ) (l.map (U.enc τ)):=by
  unfold eG at h;cases ho:xW s x with
  |l z=>
   simp only[ho,Sv.l.injEq] at h;simp only[vw];have:uQ s.m z=some (.sl τ l)/\z≠ .nil:=by
    cases z with
    |nat a=>
     simp only[rsv,aR] at h;cases hn:s.m.ns[a]? with
     |none=>simp only[hn] at h;subst h;cases hr
     |some q=>simp only[hn] at h;subst h;cases hr
    |lt a n=>
     simp only[rsv,aR] at h;cases hn:s.m.ns[a]? with
     |none=>simp only[hn] at h;subst h;cases hr
     |some q=>simp only[hn] at h;subst h;cases hr
    |nil=>simp only[rsv] at h;subst h;cases hr
    |_=>simp only[rsv] at h;subst h;exact⟨hr,by simp⟩
   grind[absurd,lv,Lf.toV]
  |_=>simp_all
 grind[bJq]
def cC7 {E':VK.Env P g}{x:Operand}{τ:Nat}{l:List (U.El τ)}(h:eG s x= .l (.sl τ l))(fr:Bool:=true):VK.Ev E' (brS s fr) x (.slice (U.K τ) (l.map (U.enc τ))):=by
 have hv:vw s.m fr (xW s x)= .slice (U.K τ) (l.map (U.enc τ)):=by
  unfold eG at h;cases ho:xW s x with
  |l z=>simp only[ho,Sv.l.injEq] at h;simp only[vw];cases z<;>grind[rsv,aR,lv,pE,uQ,Lf.toV]
  |_=>simp_all
 grind[bJq]
def MO (P:Program)(C:Cod U)(E:Env U g)(s:St U)(a:Act)(w:World)(β:List Tr)(op:Op)(x:Sv U):Prop:=
 ∀o:Oper,o.op=op->∃v,(∀w',Ext w w'->(execOp a.eval o).run P w'= .ok (.value v) w')/\x.mean C w (E.X β) β s.m v
def bLy (r:bB C E s a w β)(fr:Bool){op:Op}{W:V}{x:Sv U}(h:∀E':VK.Env P g,Kg E' (brS s fr) op W)(c:∀v,Rd w (Zf E β fr) [] v W->x.mean C w (E.X β) β s.m v):MO P C E s a w β op x:=λo ho=>by
 obtain⟨v,h1,h2⟩:=h _ [] a w (br (P:=P) r fr) o ho;refine⟨v,h1,c v (h2.conv (ao _) (λb _ hb=> .inl hb) (λ_ _ _ h=>h) (λ_ _ h=>h))⟩
def cC8 {k:IntKind}{n:Int}{X:Nat->Prop}{Z:Nat->Prop}{m:Mm U}{v:Value}(h:Rd w Z [] v (.int k n)):(Sv.l (.int k n):Sv U).mean C w X β m v:=h.aAR
def cA9 {b:Bool}{X:Nat->Prop}{Z:Nat->Prop}{m:Mm U}{v:Value}(h:Rd w Z [] v (.bool b)):(Sv.l (.bool b):Sv U).mean C w X β m v:=h.aAU
def bZ8 {z:ByteArray}{X:Nat->Prop}{Z:Nat->Prop}{m:Mm U}{v:Value}(h:Rd w Z [] v (.str z)):(Sv.l (.str z):Sv U).mean C w X β m v:=h.aAT
end
end Go.EV
namespace Go.EV
open Go.RowKit Go.VK
variable {U:Uni} {Y:Lay U} {TI:List (Nat×TInfo)} {P:Program} {g:GI} {E:Env U g}
section
variable {C:Cod U} {s:St U} {m:Mm U} {a:Act} {w w':World} {β β':List Tr} {X:Nat->Prop}
def bHa {i:TInfo}{cs:List (Lf U)}{off:Nat}{x:Sv U}(h:cut i cs off=some x):
  (∃fs ds,i.u= .st fs/\ds=(cs.drop off).take i.k/\ds.length=i.k/\x= .a ds)\/((∀fs,i.u≠ .st fs)/\∃y,cs[off]? =some y/\x= .l y):=by
 grind[aR,Option.some.injEq,aP5,bG8,bL,Nat.beq,Nat.eq_of_beq_eq_true,cut]
def bVh {t:Nat}{i:TInfo}(h:tiB P t i=true)(b:∀fs,i.u≠ .st fs):J7 P t=true/\i.k=1:=by
 cases hi:i.u with
 |int k=>have:=K5 h hi;exact this.2
 |bool=>have:=aK6 h hi;exact this.2
 |str=>have:=Wp h hi;exact this.2
 |sl e ek eb=>have:=Kt h hi;exact this.2
 |st fs=>simp_all
theorem add_zero' (p:Addr):p.add 0=p:=by rfl
def aP6 {S:World->Prop}{t:Nat}{i:TInfo}{p:Addr}{vs:List Value}{cs:List (Lf U)}{off:Nat}{x:Sv U}(b:tiB P t i=true)(hc:cut i cs off=some x)(d:Ms C w X β m vs (cs.drop off))
  (hcell:∀w',S w'->∀(j:Nat) (v:Value),vs[j]? =some v->w'.cell? (p.add j)=some v):
  ∃v,(∀w',S w'->(loadVar t p).run P w'= .ok v w')/\x.mean C w X β m v:=by
 rcases bHa hc with⟨fs,ds,e,h1,h2,rfl⟩|⟨e,y,h1,rfl⟩
 ·have o:=(aK7 b e).1;have hl:i.k<=vs.length:=by rw[d.1,<-h2,h1,cb];omega
  have f:(vs.take i.k).length=i.k:=by simp[*]
  refine⟨.agg (vs.take i.k).toArray,λw' he=> ?_,vs.take i.k,rfl,by rw[f,h2],λj v c h l=> ?_⟩
  ·grind[aT8]
  ·rw[eV] at h;split at h
   ·rw[h1,eV] at l;split at l
    ·exact d.2 j v c h l
    omega
   grind
 ·have ho:=(bVh b e).1;have h0:(cs.drop off)[0]? =some y:=by simp[*]
  have hl:0<vs.length:=by rw[d.1];exact lt_of_some h0
  have n:vs[0]? =some vs[0]:=aa hl;refine⟨vs[0],λw' he=> ?_,d.2 0 _ y n h0⟩
  grind[aT7,add_zero']
def aK8 {t:Nat}{i:TInfo}{p:Addr}{vs:List Value}{cs:List (Lf U)}{off:Nat}{x:Sv U}(b:tiB P t i=true)(hc:cut i cs off=some x)(c:Ms C w X β m vs (cs.drop off))
  (hcell:∀w',Ext w w'->∀(j:Nat) (v:Value),vs[j]? =some v->w'.cell? (p.add j)=some v):
  ∃v,(∀w',Ext w w'->(loadVar t p).run P w'= .ok v w')/\x.mean C w X β m v:=aP6 (S:=Ext w) b hc c hcell
def Ms.drop {vs:List Value}{cs:List (Lf U)}(h:Ms C w X β m vs cs)(n:Nat):Ms C w X β m (vs.drop n) (cs.drop n):=
 ⟨by simp[h.1],λi v c h1 h2=>h.2 (n+i) v c (by simpa using h1) (by simpa using h2)⟩
theorem bLz {T k n:Nat}{t:Tr}{xs c:List Value}(h:w.ownsRow 0 T k t.val n xs)(e:w.ownsRow 0 T k t.val n c):xs=c:=by
 rcases eF h with⟨d,_,f,_⟩|⟨b,cur,d,_,_,_,i,_,j⟩
 all_goals grind[eF,d1,d5,d7,d3]
theorem bJt {d:Bool}{τ n:Nat}{L:List (U.El τ)}{z:U.El τ}{xs:List Value}{B:List Nat}(f:OwL C w X d xs (L.map (C.cel τ)).flatten B)(j:L[n]? =some z):
  ∃(l1 l2:List (U.El τ)) (x1 b x2:List Value) (c Bz e:List Nat),L=l1++z::l2/\l1.length=n/\xs=x1++(b++x2)/\x1.length=n*U.K τ/\b.length=U.K τ/\B=c++(Bz++e)/\
   OwL C w X d x1 (l1.map (C.cel τ)).flatten c/\OwL C w X d b (C.cel τ z) Bz/\OwL C w X d x2 (l2.map (C.cel τ)).flatten e:=by
 obtain⟨l1,l2,k,l,o,p⟩:=aKy (C.hlen τ) j;rw[o] at f;obtain⟨x1,y,c,Br,q,r,h,t⟩:=OwL.split f;obtain⟨b,x2,Bz,e,u,v,i,x⟩:=OwL.split t;exact⟨l1,l2,x1,b,x2,c,Bz,e,k,l,by rw[<-u,<-q],by rw[h.len,p],by rw[i.len,C.hlen],by rw[<-v,<-r],h,i,x⟩
def bJu (H:Hp C E m β w){i n:Nat}{t:Tr}{e:EO U}{τ:Nat}{d:Bool}{L:List (U.El τ)}{z:U.El τ}(hβ:β[i]? =some t)(ho:m.o[i]? =some e)(he:e.ob= .tree τ d L)(j:L[n]? =some z):
  ∃(l1 l2:List (U.El τ)) (x1 c x2:List Value) (f Bz h:List Nat),L=l1++z::l2/\l1.length=n/\w.ownsRow 0 τ (U.K τ) t.val L.length (x1++(c++x2))/\x1.length=n*U.K τ/\c.length=U.K τ/\t.bs=f++(Bz++h)/\
   OwL C w (E.X β) d x1 (l1.map (C.cel τ)).flatten f/\OwL C w (E.X β) d c (C.cel τ z) Bz/\OwL C w (E.X β) d x2 (l2.map (C.cel τ)).flatten h/\0<U.K τ:=by
 have b:=H.ok i t e hβ ho;rw[he] at b;obtain⟨h1,xs,h2,k⟩:=b
 grind[bJt]
def bL0 {i c τ:Nat}{q:Int}{z:U.El τ}:∀(cs:List (Lf U)) (b j:Nat) (x:Lf U),(aU3 i c τ q z b cs)[j]? =some x->∃y,cs[j]? =some y/\((∃τ' l,y= .sl τ' l/\x= .inn i c τ q z (b+j) τ' l)\/((∀τ' l,y≠ .sl τ' l)/\x=y))
 |[],b,j,x,h=>by simp[aU3] at h
 |y::cs,b,0,x,h=>by
  refine⟨y,rfl,?_⟩;cases y with
  |sl τ' l=>simp[aU3] at h;subst h;exact .inl ⟨τ',l,rfl,rfl⟩
  |_=>simp[aU3] at h;subst h;exact .inr ⟨by simp,rfl⟩
 |y::cs,b,j+1,x,h=>by
  have d:(aU3 i c τ q z (Nat.succ b) cs)[j]? =some x:=by cases y<;>simpa[aU3] using h
  obtain⟨y',h1,h2⟩:=bL0 cs (Nat.succ b) j x d;refine⟨y',by simpa using h1,?_⟩;rw[show b+(j+1)=Nat.succ b+j by omega];exact h2
def bL1 {i c τ:Nat}{q:Int}{z:U.El τ}:∀(cs:List (Lf U)) (b:Nat),(aU3 i c τ q z b cs).length=cs.length
 |[],_=>rfl
 |y::cs,b=>by cases y<;>simp[aU3,bL1 cs]
def OwL.at {d:Bool}:∀{vs:List Value} {xs:List (Lf U)} {B:List Nat},OwL C w X d vs xs B->∀(i:Nat) (v:Value) (x:Lf U),vs[i]? =some v->xs[i]? =some x->∃B',Ow C w X d v x B'/\∀b∈B',b∈B
 |_,_,_, .n,i,v,x,h,_=>by simp at h
 |_,_,_, .c h hr,i,v,x,h1,h2=>by
  cases i with
  |zero=>simp at h1 h2;subst h1;subst h2;exact⟨_,h,λb hb=>by simp[hb]⟩
  |succ i=>obtain⟨B',k1,k2⟩:=OwL.at hr i v x (by simpa using h1) (by simpa using h2);exact⟨B',k1,λb hb=>by simp[k2 b hb]⟩
def bS8 (H:Hp C E m β w){i:Nat}{q:Int}{t:Tr}{e:EO U}{τ:Nat}{d:Bool}{L:List (U.El τ)}{z:U.El τ}(hβ:β[i]? =some t)(ho:m.o[i]? =some e)(he:e.ob= .tree τ d L)(h0:0<=q)(k:L[q.toNat]? =some z):
  ∃c:List Value,Ms C w (E.X β) β m c (aU3 i e.cv τ q z 0 (C.cel τ z))/\∀b,t.b=some b->∀(j:Nat) (v:Value),c[j]? =some v->w.cell? (Addr.add ⟨b,0,none⟩ (q.toNat*U.K τ+j))=some v:=by
 obtain⟨l1,l2,x1,c,x2,u,Bz,A,B,D,n,r,F,G,I,h,J,_⟩:=bJu H hβ ho he k;have p:∀(j:Nat) (v:Value),c[j]? =some v->(x1++(c++x2))[q.toNat*U.K τ+j]? =some v:=λj v f=>by
  rw[<-r,ax (dc _ _),cC,aq (lt_of_some f)];exact f
 refine⟨c,⟨by rw[bL1,h.len],λj v x h1 h2=> ?_⟩,λb hb j v f=>sH n hb (p j v f)⟩;obtain⟨y,k1,k2⟩:=bL0 _ _ _ _ h2;rw[cl] at k2;obtain⟨B',k3,_⟩:=h.at j v y h1 k1;rcases k2 with⟨τ',l,rfl,rfl⟩|⟨k2,rfl⟩
 ·exact⟨⟨(H.vers i e ho).2,h.ones v (ba h1)⟩,e,t,ho,hβ,λ_=>⟨d,L,_,he,h0,k,k1,n,p j v h1⟩⟩
 ·cases k3 with
  |int q1 q2=>exact⟨rfl,q1,q2⟩
  |bool=>rfl
  |str q=>exact⟨rfl,q⟩
  |fz=>assumption
  |sl=>grind
  |su=>grind
def bQx (H:Hp C E m β w){i j τ':Nat}{q:Int}{t:Tr}{e:EO U}{τ:Nat}{L:List (U.El τ)}{z:U.El τ}{l:List (U.El τ')}{xs:List Value}{v:Value}(hβ:β[i]? =some t)(ho:m.o[i]? =some e)(he:e.ob= .tree τ true L)(h:L[q.toNat]? =some z)
  (d:(C.cel τ z)[j]? =some (.sl τ' l)) (hr:w.ownsRow 0 τ (U.K τ) t.val L.length xs) (hv:xs[q.toNat*U.K τ+j]? =some v):
  ∃(u:Tr) (ys:List Value),v=u.val/\w.ownsRow 0 τ' (U.K τ') u.val l.length ys/\OwL C w (E.X β) true ys (l.map (C.cel τ')).flatten u.bs/\∀b∈u.all,b∈t.all:=by
 obtain⟨l1,l2,x1,f,x2,r,Bz,x,y,A,B,D,k,F,G,n,I,_⟩:=bJu H hβ ho he h;have p:j<f.length:=by rw[k,<-C.hlen τ z];exact lt_of_some d
 have c:f[j]? =some v:=by
  grind[bLz,List.getElem?_append_right,Nat.add_sub_cancel_left,List.getElem?_append_left]
 obtain⟨B',k3,k4⟩:=n.at j v _ c d;cases k3<;>grind[k3,k4,Tr.all]
def bZ9 {u:Tr}{b c d:Nat}(h:u.val= .slice (some ⟨b,0,none⟩) c d):u.b=some b:=by simp_all[Tr.val]
def bL2 {i c:Nat}:∀(cs:List (Lf U)) (j:Nat) (x:Lf U),(aU4 i c cs)[j]? =some x->∃y,cs[j]? =some y/\((∃τ l,y= .sl τ l/\x= .bor i c τ l)\/((∀τ l,y≠ .sl τ l)/\x=y))
 |[],j,x,h=>by simp[aU4] at h
 |y::cs,0,x,h=>by
  refine⟨y,rfl,?_⟩;cases y with
  |sl τ l=>simp[aU4] at h;subst h;exact .inl ⟨τ,l,rfl,rfl⟩
  |_=>simp[aU4] at h;subst h;exact .inr ⟨by simp,rfl⟩
 |y::cs,j+1,x,h=>by
  have b:(aU4 i c cs)[j]? =some x:=by cases y<;>simpa[aU4] using h
  obtain⟨y',h1,h2⟩:=bL2 cs j x b;exact⟨y',by simpa using h1,h2⟩
def bL3 {i c:Nat}:∀(cs:List (Lf U)),(aU4 i c cs).length=cs.length
 |[]=>rfl
 |y::cs=>by cases y<;>simp[aU4,bL3 cs]
def Qy {i c:Nat}(h:okv m i c=true):∃e,m.o[i]? =some e/\e.cv=c:=by
 grind[Nat.eq_of_beq_eq_true,aR,okv]
def bJv (r:bB C E s a w β){t k j i off:Nat}{y:Lf U}{v:Value}(c:IntKind)(f:arB P t k=true)(l:j<k)(hm:(Lf.box i off:Lf U).mean C w (E.X β) β s.m v)(h:xL s.m j (.box i off)=some y):
  ∃d,(∀w':World,(Instr.indexAt t v (.int c (j:Int))).run P w'= .ok d w')/\y.mean C w (E.X β) β s.m d:=by
 simp only[xL,aR] at h;obtain⟨_,e,tr,h1,h2,n⟩:=hm;simp only[h1] at h;obtain⟨ob,rv,cv⟩:=e;cases ob with
 |box T cs o=>simp only[aj] at h;subst h;obtain⟨b,p,rfl⟩:=n rfl;refine⟨_,λw'=>bYp f l _ c,⟨rfl,⟨.box T cs o,rv,cv⟩,tr,h1,h2,λ_=>⟨b,p,by rw[fT]⟩⟩⟩
 |_=>cases h
def aK9 (r:bB C E s a w β){t f:Nat}{off:Nat}{x y:Lf U}{v:Value}(l:bUw P t f off=true)(hm:x.mean C w (E.X β) β s.m v)(h:xL s.m off x=some y):
  ∃u,(∀w':World,(Instr.fieldAt t v f).run P w'= .ok u w')/\y.mean C w (E.X β) β s.m u:=by
 cases x with
 |box i o=>
  simp only[xL,aR] at h;obtain⟨_,e,tr,h1,h2,n⟩:=hm;simp only[h1] at h;obtain⟨ob,rv,cv⟩:=e;cases ob with
  |box T cs A=>simp only[aj] at h;subst h;obtain⟨b,B,rfl⟩:=n rfl;refine⟨_,λw'=>aYm l _,⟨rfl,⟨.box T cs A,rv,cv⟩,tr,h1,h2,λ_=>⟨b,B,by rw[fT]⟩⟩⟩
  |_=>cases h
 |ptr τ z o=>
  simp only[xL,aj] at h;subst h;have k:Rd w (E.X β) [] v (.elem ((U.enc τ z).drop o)):=hm;cases v with
  |pointer p=>
   cases k with
   | @elem _ D _ val hX hb hcell hrd=>
    refine⟨.pointer (some (D.add off)),λw'=>aYm l _,?_⟩;show Rd w (E.X β) [] _ (.elem ((U.enc τ z).drop (o+off)));refine .elem (val:=λj=>val (off+j)) (by grind[add_block]) (by grind[add_block]) (λj d F=> ?_) (λj d F=> ?_)
    all_goals grind[Nat.add_assoc,add_add']
  |_=>cases k
 |oel i c τ q z o=>
  simp only[xL] at h;cases hv:okv s.m i c with
  |false=>simp_all
  |true=>simp only[hv,ae,aj] at h;subst h;obtain⟨h0,e,tr,h1,h2,n⟩:=hm;obtain⟨e',k1,k2⟩:=Qy hv;rw[h1] at k1;injection k1 with k1;subst k1;obtain⟨d,L,b,G,H,I,J,rfl⟩:=n k2;refine⟨_,λw'=>aYm l _,⟨⟨h0.1,rfl⟩,e,tr,h1,h2,λ_=>⟨d,L,b,G,H,I,J,by rw[fT,iy]⟩⟩⟩
 |_=>cases h
def bHb (r:bB Y.C E s a w β){t:Nat}{i:TInfo}(f:tiB P t i=true){x:Lf U}{y:Sv U}{v:Value}(hm:x.mean Y.C w (E.X β) β s.m v)(h:load Y s i x=some y):
  ∃p D,v= .pointer (some p)/\(∀w',Ext w w'->(loadVar t p).run P w'= .ok D w')/\y.mean Y.C w (E.X β) β s.m D:=by
 cases x with
 |box b o=>
  simp only[load,aR] at h;obtain⟨_,e,tr,h1,h2,G⟩:=hm;simp only[h1] at h;have R:=r.hp.ok b tr e h2 h1;obtain⟨ob,rv,cv⟩:=e;cases ob with
  |box T cs us=>
   obtain⟨B,h4,rfl⟩:=G rfl;obtain⟨_,b',vs,k1,k2,k3,k4⟩:=R;rw[h4] at k1;injection k1 with k1;subst k1;obtain⟨D,q1,q2⟩:=aK8 (P:=P) (p:=⟨B,o,none⟩) f h (k4.drop o) (λw' he j u F=>by
    rw[fT,cell_of_row w' B (o+j) _ T (0,0) (he.heap k3)];simp_all)
   grind
  |_=>cases h
 |ptr τ z o=>
  simp only[load] at h;have H:Rd w (E.X β) [] v (.elem ((U.enc τ z).drop o)):=hm;cases v with
  |pointer p=>
   cases H with
   | @elem _ ad _ val hX hb hcell hrd=>
    have hlen:((List.range ((Y.C.cel τ z).drop o).length).map val).length=((Y.C.cel τ z).drop o).length:=by simp
    obtain⟨D,q1,q2⟩:=aK8 (P:=P) (p:=ad) (vs:=(List.range ((Y.C.cel τ z).drop o).length).map val) f h (m:=s.m) (C:=Y.C) (w:=w) (X:=E.X β) (β:=β) ⟨hlen,λj u c h5 S=>by
      have A:=lt_of_some S;simp only[bq,df A,da,aj] at h5;subst h5;have hd:((U.enc τ z).drop o)[j]? =some c.toV:=by rw[<-Y.C.hcel,<-eN,bq,S];rfl
      have hr:=hrd j _ hd;have hdat:=Y.C.hdat τ z c (eI (ba S));cases c with
      |int k n=>exact hr.aAR
      |bool b=>exact hr.aAU
      |str b=>exact hr.aAT
      |sl τ' l=>exact hr
      |_=>cases hdat⟩ (λw' he j u F=>by
      have A:j<((Y.C.cel τ z).drop o).length:=by grind
      simp only[bq,df A,da,aj] at F;subst F;exact he.cell (hcell j (((U.enc τ z).drop o)[j]'(by rw[<-Y.C.hcel,<-eN,bn];exact A)) (aa _)))
    grind
  |_=>cases H
 |oel b c τ q z o=>
  simp only[load] at h;cases hv:okv s.m b c with
  |false=>simp_all
  |true=>
   simp only[hv,ae] at h;obtain⟨h0,e,tr,h1,h2,G⟩:=hm;obtain⟨e',k1,k2⟩:=Qy hv;rw[h1] at k1;injection k1 with k1;subst k1;subst k2;obtain⟨d,L,B,V,a2,W,a4,rfl⟩:=G rfl;obtain⟨xz,m1,m2⟩:=bS8 r.hp h2 h1 V a2 W;obtain⟨D,q1,q2⟩:=aK8 (P:=P) (p:=⟨B,q.toNat*U.K τ+o,none⟩) f h (m1.drop o) (λw' he j u F=>by
    have:=he.cell (m2 B a4 (o+j) u (by simpa using F))
    grind[fT])
   grind
 |oin b c τ q z j τ' l q' z' o=>
  simp only[load] at h;cases hv:okv s.m b c with
  |false=>simp_all
  |true=>
   simp only[hv,ae] at h;obtain⟨h0,e,tr,h1,h2,G⟩:=hm;obtain⟨e',k1,k2⟩:=Qy hv;rw[h1] at k1;injection k1 with k1;subst k1;subst k2;obtain⟨L,xs,v0,B,n',c',V,a2,W,a4,a5,a6,a7,a8,a9,rfl⟩:=G rfl;obtain⟨u,ys,b1,b2,b3,b4⟩:=bQx r.hp h2 h1 V W a4 a5 a6;have hub:u.b=some B:=bZ9 (b1.symm.trans a7);obtain⟨l1,l2,x1,xz,x2,B1,Bz,B2,g1,g2,g3,g4,g5,g6,o1,Q,o3⟩:=bJt b3 a9;have m1:Ms Y.C w (E.X β) β s.m xz (aU4 b e.cv (Y.C.cel τ' z')):=⟨by rw[bL3,Q.len],λI v x f1 f2=>by
    obtain⟨y,f3,J⟩:=bL2 _ _ _ f2;obtain⟨B',f5,f6⟩:=Q.at I v y f1 f3;rcases J with⟨τ2,l2,rfl,rfl⟩|⟨J,rfl⟩
    ·exact⟨⟨(r.hp.vers b e h1).2,Q.ones v (ba f1)⟩,e,tr,h1,h2,λ_=>(Q.rd (Z:=λb=>E.X β b/\b∉tr.all) (λb hb'=>hb'.1) (λb hb' hn=>hn.2 (b4 b (by simp[Tr.all,g6,hb'])))).2 I v _ f1 f3⟩
    ·cases f5 with
     |int q1 q2=>exact⟨rfl,q1,q2⟩
     |bool=>rfl
     |str q=>exact⟨rfl,q⟩
     |fz=>exact absurd rfl (J _ _)
     |sl=>exact absurd rfl (J _ _)
     |su=>exact absurd rfl (J _ _)⟩
   obtain⟨D,q1,q2⟩:=aK8 (P:=P) (p:=⟨B,q'.toNat*U.K τ'+o,none⟩) f h (m1.drop o) (λw' he I u' F=>by
    have hx:ys[q'.toNat*U.K τ'+(o+I)]? =some u':=by
     have O:xz[o+I]? =some u':=by simp_all
     rw[g3,<-g4,ax (dc _ _),cC,aq (lt_of_some O)];exact O
    have:=he.cell (sH b2 hub hx)
    grind[fT])
   grind
 |_=>cases h
end
end Go.EV
namespace Go.EV
open Go.RowKit Go.VK
variable {U:Uni} {Y:Lay U} {TI:List (Nat×TInfo)} {P:Program} {g:GI} {E:Env U g}
section
variable {s:St U} {m:Mm U} {a:Act} {w w':World} {β β':List Tr} {X:Nat->Prop}
def mX {x:Operand}(r:bB Y.C E s a w β){y:Lf U}(h:eG s x= .l y):y.mean Y.C w (E.X β) β s.m (a.eval x):=by have:=Qx r (x:=x);rw[h] at this;exact this
def cBa {x:Operand}(r:bB Y.C E s a w β){cs:List (Lf U)}(h:xW s x= .a cs):∃vs:List Value,a.eval x= .agg vs.toArray/\Ms Y.C w (E.X β) β s.m vs cs:=by have:=jR r (x:=x);rw[h] at this;exact this
def bVi {x:Operand}{cs:List (Lf U)}(h:eG s x= .a cs):xW s x= .a cs:=by
 unfold eG at h;cases ho:xW s x with
 |l y=>simp[ho] at h
 |a ds=>simp only[ho] at h;exact h
 |t xs=>simp[ho] at h
def cC9 {x:Operand}{xs:List (Bool×List (Lf U))}(h:eG s x= .t xs):xW s x= .t xs:=by
 unfold eG at h;cases ho:xW s x with
 |l y=>simp[ho] at h
 |a ds=>simp[ho] at h
 |t xs=>simp only[ho] at h;exact h
def aY5 {v:Value}{x:Lf U}(hm:x.mean Y.C w X β m v)(h:bU7 x=true):v.oneCell'=true:=by
 cases x with
 |int=>obtain⟨rfl,_⟩:=hm;rfl
 |bool=>obtain rfl:=hm;rfl
 |str=>obtain⟨rfl,_⟩:=hm;rfl
 |nat=>obtain⟨_,_,_,rfl,_⟩:=hm;rfl
 |lt=>obtain⟨_,_,_,rfl,_⟩:=hm;rfl
 |sl τ l=>exact Rd.one hm rfl
 |nil=>obtain rfl:=hm;rfl
 |own=>exact hm.1.2
 |bor=>exact hm.1.2
 |inn=>exact hm.1.2
 |oel=>exact hm.1.2
 |oin=>exact hm.1.2
 |suf=>exact hm.1.2
 |box=>exact hm.1
 |ptr τ z off=>have b:Rd w X [] v (.elem ((U.enc τ z).drop off)):=hm;exact Rd.one b rfl
 |und=>cases h
 |any=>cases h
def bJw:∀{cs:List (Lf U)},Qv cs=true->∀c∈cs,bU7 c=true
 |[],_,c,hc=>by simp at hc
 |x::xs,h,c,hc=>by
  simp only[Qv,ab] at h;rcases bl.1 hc with rfl|hc
  ·exact h.1
  ·exact bJw h.2 c hc
def Fh {v:Value}{x:Sv U}{ps:List (Lf U)}(hm:x.mean Y.C w X β m v)(hp:parts x=some ps)(h1:Qv ps=true):Ms Y.C w X β m v.cells.toList ps/\∀u∈v.cells.toList,u.oneCell'=true:=by
 have key:∀{vs:List Value},Ms Y.C w X β m vs ps->∀u∈vs,u.oneCell'=true:=λ{vs} b u j=>by
  obtain⟨i,hi⟩:=cQ.1 j;have d:i<ps.length:=by rw[<-b.1];exact lt_of_some hi
  exact aY5 (b.2 i u _ hi (aa d)) (bJw h1 _ (cx d))
 cases x with
 |l y=>
  simp only[parts,aj] at hp;subst hp;have ho:=aY5 (Y:=Y) (m:=m) (β:=β) hm (bJw h1 y (by simp));rw[aCz ho];have b:Ms Y.C w X β m [v] [y]:=⟨rfl,λi u c f h=>by
   cases i with
   |zero=>simp at f h;subst f;subst h;exact hm
   |succ i=>simp at f⟩
  exact⟨b,key b⟩
 |a cs=>simp only[parts,aj] at hp;subst hp;obtain⟨vs,rfl,b⟩:=hm;have e:(Value.agg vs.toArray).cells.toList=vs:=rfl;rw[e];exact⟨b,key b⟩
 |t xs=>cases hp
def bQy:∀{l:List (Nat×Nat)} {fs:List (Nat×Nat×Nat)} {n:Nat} {off ft k:Nat},bJp l fs=true->fs[n]? =some (off,ft,k)->l[n]? =some (off,k)
 |[],[],n,off,ft,k,_,h=>by simp at h
 |[],_::_,n,off,ft,k,h,_=>by cases h
 |_::_,[],n,off,ft,k,h,_=>by cases h
 |(x,y)::l,(o,f,c)::fs,0,off,ft,k,h,hn=>by
  simp only[bJp,ab] at h;simp at hn;obtain⟨rfl,rfl,rfl⟩:=hn;rw[ai h.1.1,ai h.1.2];rfl
 |(x,y)::l,(o,f,c)::fs,n+1,off,ft,k,h,hn=>by
  simp only[bJp,ab] at h;simpa using bQy h.2 (by simpa using hn)
def bL4 (r:bB Y.C E s a w β){pls:List (Nat×Nat)}{fs:List (Nat×Nat×Nat)}(hp:bJp pls fs=true):∀{xs:List (Nat×Operand)} {cs ds:List (Lf U)},bOp s fs xs cs=some ds->
  ∀cells:Array Value,Ms Y.C w (E.X β) β s.m cells.toList cs->∃res,Instr.fill (λi=>pls.toArray[i]?) cells (xs.map λ(i,x)=>(i,a.eval x))=some res/\Ms Y.C w (E.X β) β s.m res.toList ds
 |[],cs,ds,h,cells,p=>by
  simp only[bOp,aj] at h;subst h;exact⟨cells,rfl,p⟩
 |(f,x)::xs,cs,ds,h,cells,p=>by
  simp only[bOp,fld,aR] at h;cases t:fs[f]? with
  |none=>simp[t] at h
  |some q=>
   obtain⟨off,ft,n⟩:=q;cases d:parts (xW s x) with
   |none=>simp[t,d] at h
   |some ps=>
    simp only[t,d] at h;cases hb:(Nat.beq (len ps) n&&Nat.ble (off+n) (len cs)&&Qv ps) with
    |false=>rw[hb] at h;cases h
    |true=>
     rw[hb] at h;simp only[ae] at h;simp only[ab,bL] at hb;obtain⟨⟨b1,A⟩,B⟩:=hb;have b1:=ai b1;have A:=aE A;have l:=(Fh (jR r (x:=x)) d B).1;have e:cells.size=cs.length:=by have:=p.1;simpa using this
     have hsz:(a.eval x).cells.toList.length=n:=by rw[l.1,b1]
     have o:=aKv off (a.eval x).cells.toList 0 cells (by rw[hsz,e];omega);rw[Wn _ _ _ (by rw[b1];omega)] at h;obtain⟨res,D,F⟩:=bL4 r hp h ((((a.eval x).cells.toList.zipIdx 0).foldl (λcs (u,j)=>cs.setIfInBounds (off+j) u) cells)) ⟨by
       have:=o.1;simp only[cT,this,e,az,cb,cr];omega,λj v c G k=>by
       have b:(((a.eval x).cells.toList.zipIdx 0).foldl (λcs (u,j)=>cs.setIfInBounds (off+j) u) cells)[j]? =some v:=by simpa using G
       rw[o.2] at b;rw[Wl _ _ _ _ (by rw[b1];omega)] at k;simp only[dg,hsz] at b;rw[b1] at k;split at b
       ·rename_i y;rw[cu y] at k;exact l.2 _ v c b k
       ·rename_i y;rw[cG y] at k;exact p.2 j v c (by simpa using b) k⟩
     refine⟨res,?_,F⟩;simp only[bw,Instr.fill];have hg:pls.toArray[f]? =some (off,n):=by simpa using bQy hp t
     rw[hg];simp only;have z:(a.eval x).cells.size=n:=by rw[<-hsz];simp
     rw[cG (by simp only[z,e];simp;omega)];rw[<-gu,gm];exact D
def bQz {v:Value}{z:Kz}(h:kzB v z=true):(z.lf:Lf U).mean Y.C w X β m v:=by
 unfold kzB at h;split at h
 ·simp only[ab,cg] at h;obtain⟨⟨⟨rfl,rfl⟩,h1⟩,h2⟩:=h;exact⟨rfl,h1,h2⟩
 ·rename_i b;have:b=false:=by simpa using h
  subst this;rfl
 ·rename_i b;have hs:b.data.size=0:=ai h;have hb:b=⟨#[]⟩:=by
   cases b with
   |mk d=>have hd:d= #[]:=Array.eq_empty_of_size_eq_zero hs;rw[hd]
  subst hb;exact⟨rfl,by decide⟩
 ·rfl
 ·cases h
def K6:∀{vs:List Value} {b:List Kz},bOx vs b=true->Ms Y.C w X β m vs (b.map (Kz.lf:Kz->Lf U))
 |[],[],_=>⟨rfl,by simp⟩
 |[],_::_,h=>by cases h
 |_::_,[],h=>by cases h
 |v::vs,z::b,h=>by
  simp only[bOx,ab] at h;have d:=K6 h.2;refine⟨by simp[d.1],λi u c h1 h2=> ?_⟩
  cases i with
  |zero=>simp at h1 h2;subst h1;subst h2;exact bQz h.1
  |succ i=>exact d.2 i u c (by simpa using h1) (by simpa using h2)
def Es {C:Cod U}{v:Value}{x:Bool×List (Lf U)}(h:Mp C w X β m v x):(bU6 x).mean C w X β m v:=by
 obtain⟨b,cs⟩:=x;cases b with
 |false=>obtain⟨c,rfl,h⟩:=h;exact h
 |true=>exact h
def aY6 {t:Nat}{i:TInfo}{vs:List Value}{cs:List (Lf U)}{off:Nat}{x:Sv U}(b:tiB P t i=true)(hc:cut i cs off=some x)(e:Ms Y.C w X β m vs cs):
  ∃v,(∀w',(part t vs.toArray off).run P w'= .ok v w')/\x.mean Y.C w X β m v:=by
 rcases bHa hc with⟨fs,ds,h,h1,h2,rfl⟩|⟨h,y,h1,rfl⟩
 ·have d:=(aK7 b h).1;have hl:i.k<=vs.length-off:=by rw[e.1,<-h2,h1,cb,cr];exact Nat.min_le_right _ _
  refine⟨.agg (vs.toArray.extract off (off+i.k)),λw'=> ?_,(vs.drop off).take i.k,?_,?_,λj v c f l=> ?_⟩
  ·have n:=(Fb (w:=w') d).1;have o:=(Fb (w:=w') d).2;simp[part,n,o]
  ·congr 1;apply Array.ext';simp[List.extract,cC]
  ·rw[h2,cb,cr];omega
  ·rw[eV] at f;split at f
   ·rw[h1,eV] at l;split at l
    ·exact e.2 (off+j) v c (by simpa using f) (by simpa using l)
    ·exact absurd ‹j<i.k› ‹¬j<i.k›
   ·simp at f
 ·have ho:=(bVh b h).1;have hl:off<vs.length:=by rw[e.1];exact lt_of_some h1
  exact⟨vs[off],λw'=>aKw ho (by simp[hl]),e.2 off _ y (aa hl) h1⟩
end
end Go.EV
namespace Go.EV
open Go.RowKit Go.VK
variable {U:Uni} {Y:Lay U} {TI:List (Nat×TInfo)} {P:Program} {g:GI} {E:Env U g}
section
variable {s:St U} {a:Act} {w:World} {β:List Tr} {α:Type}
theorem lT (r:bB Y.C E s a w β){op:Op}{k:IntKind}{n:Int}(h:∀E':VK.Env P g,Kg E' (brS s false) op (.int k n)):MO P Y.C E s a w β op (.l (.int k n)):=bLy r false h (λv hv=>cC8 hv)
theorem oI (r:bB Y.C E s a w β){op:Op}{b:Bool}(h:∀E':VK.Env P g,Kg E' (brS s false) op (.bool b)):MO P Y.C E s a w β op (.l (.bool b)):=bLy r false h (λv hv=>cA9 hv)
def bJx (r:bB Y.C E s a w β){op:Op}{z:ByteArray}(h:∀E':VK.Env P g,Kg E' (brS s false) op (.str z)):MO P Y.C E s a w β op (.l (.str z)):=bLy r false h (λv hv=>bZ8 hv)
theorem aY7 (r:bB Y.C E s a w β){b:BinOp}{t u:TypeId}{x y:Operand}{k:IntKind}{m n:Int}{z:Lf U}(c:eG s x= .l (.int k m))(d:eG s y= .l (.int k n))(h:bYf b k m n=some z):MO P Y.C E s a w β (.binOp b t x y u) (.l z):=by
 cases b<;>simp only[bYf,aj,reduceCtorEq] at h<;>subst h
 ·grind[lT,add,dI]
 ·grind[lT,sub,dI]
 ·grind[lT,mul,dI]
 ·grind[lT,cAz,dI]
 ·grind[lT,cC1,dI]
 ·grind[lT,cA0,dI]
 ·exact oI r λ_=>eql (dI c) (dI d)
 ·exact oI r λ_=>neq (dI c) (dI d)
 ·exact oI r λ_=>lss (dI c) (dI d)
 ·exact oI r λ_=>leq (dI c) (dI d)
 ·exact oI r λ_=>gtr (dI c) (dI d)
 ·exact oI r λ_=>geq (dI c) (dI d)
theorem aY8 (r:bB Y.C E s a w β){b:BinOp}{t u:TypeId}{x y:Operand}{m n:ByteArray}{z:Lf U}(c:eG s x= .l (.str m))(d:eG s y= .l (.str n))(h:bYg b m n=some z):MO P Y.C E s a w β (.binOp b t x y u) (.l z):=by
 cases b<;>simp only[bYg,aj,reduceCtorEq] at h<;>subst h
 ·exact oI r (by simp_all[cEj,Wq])
 ·exact oI r (by simp_all[sne,Wq])
def bVj {i off ft n:Nat}{fs:List (Nat×Nat×Nat)}{c d:Lf U}{cs ds:List (Lf U)}{z:Bool}(h:eqQ TI i ((off,ft,n)::fs) (c::cs) (d::ds)=some z):off=i/\∃r,eqQ TI (Nat.succ i) fs cs ds=some r/\
  ((∃k k1 b q m n,kG TI ft=some ⟨.int q,k1,b⟩/\c= .int k m/\d= .int k n/\z=(m==n&&r))\/(∃k1 b m n,kG TI ft=some ⟨.bool,k1,b⟩/\c= .bool m/\d= .bool n/\z=(m==n&&r))\/(∃k1 b m n,kG TI ft=some ⟨.str,k1,b⟩/\c= .str m/\d= .str n/\z=(m.toList==n.toList&&r))):=by
 grind[Nat.beq,Nat.eq_of_beq_eq_true,k1,inl,Option.some.inj,eqQ]
def bVk {D:Nat}{w w':World}{C:Cod U}{X:Nat->Prop}{β:List Tr}{m:Mm U}(hTI:uS P TI=true){xs ys:Array Value}:∀{fs:List (Nat×Nat×Nat)} {fds:List Field} {i:Nat} {cs ds:List (Lf U)} {z:Bool},fds.length=fs.length->
  (∀(j:Nat) (fd:Field) (q:Nat×Nat×Nat),fds[j]? =some fd->fs[j]? =some q->fd.type=q.2.1/\fd.offset=q.1)->
  (∀(j:Nat) (c:Lf U),cs[j]? =some c->∃v,xs[i+j]? =some v/\c.mean C w X β m v)->(∀(j:Nat) (c:Lf U),ds[j]? =some c->∃v,ys[i+j]? =some v/\c.mean C w X β m v)->
  eqQ TI i fs cs ds=some z->fds.all (Qk P)=true/\((fds.all λf=>f.name != "_")=true->(Op.eqFields (D+1) xs ys fds).run P w'= .ok z w')
 |[],fds,i,cs,ds,z,hl,_,_,_,he=>by
  have h1:fds=[]:=List.length_eq_zero_iff.1 hl;subst h1;cases cs<;>cases ds<;>first|(simp only[eqQ,aj] at he;subst he;exact⟨rfl,λ_=>bQp⟩)|cases he
 |(off,ft,n)::fs,[],i,cs,ds,z,hl,_,_,_,_=>by cases hl
 |(off,ft,n)::fs,fd::fds,i,[],ds,z,_,_,_,_,he=>by cases ds<;>cases he
 |(off,ft,n)::fs,fd::fds,i,c::cs,[],z,_,_,_,_,he=>by cases he
 |(off,ft,n)::fs,fd::fds,i,c::cs,d::ds,z,hl,hfd,hx,hy,he=>by
  obtain⟨h1,r,hr,hcase⟩:=bVj he;obtain⟨k1,k2⟩:=hfd 0 fd (off,ft,n) rfl rfl;have ho:fd.offset=i:=k2.trans h1;obtain⟨v,x1,x2⟩:=hx 0 c rfl;obtain⟨u,y1,y2⟩:=hy 0 d rfl;rw[dg] at x1 y1;obtain⟨g1,g2⟩:=bVk (D:=D) (w':=w') hTI (fs:=fs) (fds:=fds) (i:=Nat.succ i) (by simpa using hl) (λj fd q a b=>hfd (j+1) fd q (by simpa using a) (by simpa using b))
   (λj c h=>by have:=hx (j+1) c (by simpa using h);rwa [show i+(j+1)=Nat.succ i+j by omega] at this) (λj c h=>by have:=hy (j+1) c (by simpa using h);rwa [show i+(j+1)=Nat.succ i+j by omega] at this) hr
  have fin:∀{q:Bool},Qk P fd=true->J7 P fd.type=true->(Op.equalIn (D+1) fd.type v u).run P w'= .ok q w'->z=(q&&r)->(fd::fds).all (Qk P)=true/\(((fd::fds).all λf=>f.name != "_")=true->(Op.eqFields (D+1) xs ys (fd::fds)).run P w'= .ok z w'):=λa1 a2 a3 a4=>by
   refine⟨by rw[gn,a1,g1];rfl,λhn=> ?_⟩;rw[gn,ab] at hn;rw[a4];exact bU3 hn.1 a2 (by rw[ho];exact x1) (by rw[ho];exact y1) a3 (g2 hn.2)
  have k1:fd.type=ft:=k1;rcases hcase with⟨k,j1,z1,q,m,n,hf,rfl,rfl,hz⟩|⟨j1,z1,m,n,hf,rfl,rfl,hz⟩|⟨j1,z1,m,n,hf,rfl,rfl,hz⟩
  ·obtain⟨t1,t2,_⟩:=K5 (bM hTI hf) rfl;obtain⟨rfl,_⟩:=x2;obtain⟨rfl,_⟩:=y2;exact fin (by simp[Qk,k1,t1]) (by rw[k1];exact t2) (by rw[k1];exact run_equalIn_int w' D _ _ _ _ _ t1) hz
  ·obtain⟨t1,t2,_⟩:=aK6 (bM hTI hf) rfl;obtain rfl:=x2;obtain rfl:=y2;exact fin (by simp[Qk,k1,t1]) (by rw[k1];exact t2) (by rw[k1];exact run_equalIn_bool' w' D _ _ _ t1) hz
  ·obtain⟨t1,t2,_⟩:=Wp (bM hTI hf) rfl;obtain⟨rfl,_⟩:=x2;obtain⟨rfl,_⟩:=y2;exact fin (by simp[Qk,k1,t1]) (by rw[k1];exact t2) (by rw[k1];exact run_equalIn_string w' D _ _ _ t1) hz
def bL5 {P:Program}:∀{fs:List Field} {l:List (Nat×Nat)},bJi P fs=some l->l.length=fs.length
 |[],l,h=>by simp[bJi] at h;subst h;rfl
 |f::fs,l,h=>by
  simp only[bJi] at h;split at h
  ·rename_i i l' _ h2;have:=ak h;subst this;simp[bL5 h2]
  ·cases h
def bL6:∀{l:List (Nat×Nat)} {fs:List (Nat×Nat×Nat)},bJp l fs=true->l.length=fs.length
 |[],[],_=>rfl
 |[],_::_,h=>by cases h
 |_::_,[],h=>by cases h
 |(a,b)::l,(off,ft,n)::fs,h=>by
  simp only[bJp,ab] at h;simp[bL6 h.2]
theorem bVl {P:Program}{f:Field}(h:Qk P f=true):Yf P f.type=true:=by
 grind[Yf,Qk]
def bS9 {P:Program}{l:List Field}(h:l.all (Qk P)=true):(l.all λf=>Yf P f.type)=true:=by
 grind[bVl,List.all_eq_true]
def bVm {t:Nat}{f:Nat×Nat×Nat}{fs:List (Nat×Nat×Nat)}{k:Nat}{zz:List Kz}(hTI:uS P TI=true)(h1:kG TI t=some ⟨.st (f::fs),k,zz⟩):∃fds:Array Field,P.underlying t=some (.struct fds)/\fds.toList.length=(f::fs).length/\
  (∀(j:Nat) (fd:Field) (q:Nat×Nat×Nat),fds.toList[j]? =some fd->(f::fs)[j]? =some q->fd.type=q.2.1/\fd.offset=q.1)/\
  ((fds.toList.all λf=>Yf P f.type)=true->P.eqGuardType P.depth t=false/\P.stoodInHeld t=false/\(fds.toList.all λf=>f.name != "_")=true):=by
 obtain⟨_,hfs,hor⟩:=aK7 (bM hTI h1) rfl;have heq:=cC6 (bM hTI h1) rfl;rcases hor with⟨_,pls,k1,k2⟩|⟨hne,_⟩
 ·unfold aYp at k1;cases hu:P.underlying t with
  |none=>simp_all
  |some d=>
   cases d<;>simp[hu] at k1;rename_i fds;refine⟨fds,rfl,(bL5 k1).symm.trans (bL6 k2),λj fd qq ha hc=> ?_,λhf=> ?_⟩
   ·have h5:=(aY4 hfs (n:=j) (off:=qq.1) (ft:=qq.2.1) (k:=qq.2.2) hc).2.1
    grind[bS1]
   grind[cA8,Bool.not_true,Bool.not_eq_true']
 ·cases hne
def bQ0 {D:Nat}{w:World}{C:Cod U}{X:Nat->Prop}{β:List Tr}{m:Mm U}(d:uS P TI=true){t:Nat}{f:Nat×Nat×Nat}{fs:List (Nat×Nat×Nat)}{k:Nat}{u:List Kz}{cs ds:List (Lf U)}{q:Bool}{vs h:List Value}(h1:kG TI t=some ⟨.st (f::fs),k,u⟩)
  (hv:Ms C w X β m vs cs) (x:Ms C w X β m h ds) (h2:eqQ TI 0 (f::fs) cs ds=some q):P.eqGuardType P.depth t=false/\Yf P t=true/\∀w':World,(Op.equalIn (D+2) t (.agg vs.toArray) (.agg h.toArray)).run P w'= .ok q w':=by
 obtain⟨fds,n,hlen,o,p⟩:=bVm d h1;have b:∀(l:List Value) (e:List (Lf U)),Ms C w X β m l e->∀(j:Nat) (c:Lf U),e[j]? =some c->∃v,l.toArray[0+j]? =some v/\c.mean C w X β m v:=λl e hm j c hc=>by
  have r:j<l.length:=by rw[hm.1];grind
  exact⟨l[j],by simp[r],hm.2 j _ c (aa r) hc⟩
 have key:=λw':World=>bVk (D:=D) (w:=w) (w':=w') (C:=C) (X:=X) (β:=β) (m:=m) d (xs:=vs.toArray) (ys:=h.toArray) (fds:=fds.toList) (i:=0) hlen o (b vs cs hv) (b h ds x) h2;obtain⟨y,z,A⟩:=p (bS9 (key w).1);refine⟨y,by simp only[Yf,n];exact(key w).1,λw'=> ?_⟩
 grind[run_equalIn_struct,Program.fieldsOf]
def cBb {D:Nat}{w:World}{C:Cod U}{X:Nat->Prop}{β:List Tr}{m:Mm U}(b:uS P TI=true){ft:Nat}{i:TInfo}{x y:Sv U}{v u:Value}{q:Bool}(c:kG TI ft=some i)(d:x.mean C w X β m v)(e:y.mean C w X β m u)(h:eqV TI i x y=some q):
  Yf P ft=true/\∀w':World,(Op.equalIn (D+2) ft v u).run P w'= .ok q w':=by
 obtain⟨f,l,n⟩:=i;unfold eqV at h;split at h
 ·split at h
  ·rename_i he;split at h
   ·rename_i hk;subst hk;have he:f=_:=he;subst he;obtain⟨j,_⟩:=K5 (bM b c) rfl;obtain⟨rfl,_⟩:=d;obtain⟨rfl,_⟩:=e
    grind[Yf,run_equalIn_int]
   ·cases h
  ·cases h
 ·split at h
  ·rename_i he;have he:f=_:=he;subst he;obtain⟨j,_⟩:=aK6 (bM b c) rfl;obtain rfl:=d;obtain rfl:=e
   grind[Yf,run_equalIn_bool']
  ·cases h
 ·split at h
  ·rename_i he;have he:f=_:=he;subst he;obtain⟨j,_⟩:=Wp (bM b c) rfl;obtain⟨rfl,_⟩:=d;obtain⟨rfl,_⟩:=e
   grind[Yf,run_equalIn_string]
  ·cases h
 ·split at h
  ·rename_i g o he;have he:f=_:=he;subst he;obtain⟨vs,rfl,hv⟩:=d;obtain⟨p,rfl,k⟩:=e;obtain⟨_,k2,k3⟩:=bQ0 (D:=D) b c hv k h;simp[*]
  ·cases h
 ·cases h
def bVn {D:Nat}{w w':World}{X:Nat->Prop}{β:List Tr}{m:Mm U}(hTI:uS P TI=true){vs us:List Value}{cs ds:List (Lf U)}(hv:Ms Y.C w X β m vs cs)(hu:Ms Y.C w X β m us ds):∀{fs:List (Nat×Nat×Nat)} {fds:List Field} {z:Bool},fds.length=fs.length->
  (∀(j:Nat) (fd:Field) (q:Nat×Nat×Nat),fds[j]? =some fd->fs[j]? =some q->fd.type=q.2.1/\fd.offset=q.1)->
  eqN TI fs cs ds=some z->(fds.all λf=>Yf P f.type)=true/\((fds.all λf=>f.name != "_")=true->(Op.eqFields (D+2) vs.toArray us.toArray fds).run P w'= .ok z w')
 |[],fds,z,hl,_,he=>by
  have h1:fds=[]:=List.length_eq_zero_iff.1 hl;subst h1;cases he;exact⟨rfl,λ_=>bQp⟩
 |(off,ft,n)::fs,[],z,hl,_,_=>by cases hl
 |(off,ft,n)::fs,fd::fds,z,hl,hfd,he=>by
  unfold eqN at he;split at he
  ·rename_i i hi;split at he
   ·rename_i x hcx;split at he
    ·rename_i y hcy;split at he
     ·rename_i a ha;split at he
      ·rename_i r hr;obtain⟨k1,k2⟩:=hfd 0 fd (off,ft,n) rfl rfl;have k1:fd.type=ft:=k1;have k2:fd.offset=off:=k2;obtain⟨v,p1,m1⟩:=aY6 (bM hTI hi) hcx hv;obtain⟨u,p2,m2⟩:=aY6 (bM hTI hi) hcy hu;obtain⟨f1,f2⟩:=cBb (D:=D) hTI hi m1 m2 ha;obtain⟨g1,g2⟩:=bVn (D:=D) (w':=w') hTI hv hu (fs:=fs) (fds:=fds) (by simpa using hl) (λj fd q a b=>hfd (j+1) fd q (by simpa using a) (by simpa using b)) hr;cases he;refine⟨by rw[gn,k1,f1,g1];rfl,λhn=> ?_⟩
       rw[gn,ab] at hn;have hnm:fd.name≠ "_" :=by simpa using hn.1
       simp only[Op.eqFields,hnm,ne_eq,not_false_eq_true,gi,Sem.run_bind,k1,k2,p1,p2,f2,Result.andThen_ok];cases a with
       |true=>simp only[ah,Bool.false_eq_true,if_false,cA];exact g2 hn.2
       |false=>simp only[bc,gi,Sem.run_pure,ir]
      ·cases he
     ·cases he
    ·cases he
   ·cases he
  ·cases he
theorem bTa (c:uS P TI=true)(r:bB Y.C E s a w β){b:BinOp}{t u:TypeId}{x y:Operand}{f:Nat×Nat×Nat}{fs:List (Nat×Nat×Nat)}{k:Nat}{n:List Kz}{cs ds:List (Lf U)}{q:Bool}(p:eG s x= .a cs)(v:eG s y= .a ds)(h1:kG TI t=some ⟨.st (f::fs),k,n⟩)(h2:eqB TI (f::fs) cs ds=some q)(hb:b= .eql\/b= .neq):
  MO P Y.C E s a w β (.binOp b t x y u) (.l (.bool (if b= .eql then q else !q))):=λo ho=>by
 obtain⟨vs,q1,q2⟩:=cBa r (bVi p);obtain⟨A,i,j⟩:=cBa r (bVi v);have hq:P.eqGuardType P.depth t=false/\∀w':World,(Op.equalIn 10000 t (.agg vs.toArray) (.agg A.toArray)).run P w'= .ok q w':=by
  unfold eqB at h2;split at h2
  ·rename_i z B;cases h2;obtain⟨k1,_,k3⟩:=bQ0 (D:=9998) c h1 q2 j B;simp[*]
  ·obtain⟨fds,F,hlen,d,e⟩:=bVm c h1;have key:=λw':World=>bVn (D:=9997) (w':=w') c q2 j hlen d h2;obtain⟨h,G,H⟩:=e (key w).1
   grind[run_equalIn_struct,Program.fieldsOf]
 obtain⟨h,hq⟩:=hq;rcases hb with rfl|rfl
 ·exact⟨.bool q,λw' _=>by simp only[execOp,ho,q1,i,Sem.run_bind,run_eqGuard_agg _ _ _ _ _ _ _ h,Result.andThen_ok,run_eql_struct,hq,Sem.run_pure],rfl⟩
 ·exact⟨.bool (!q),λw' _=>by simp only[execOp,ho,q1,i,Sem.run_bind,run_eqGuard_agg _ _ _ _ _ _ _ h,Result.andThen_ok,run_neq_struct,hq,Sem.run_pure],rfl⟩
def bTb (c:uS P TI=true)(r:bB Y.C E s a w β){b:BinOp}{t u:TypeId}{x y:Operand}{z:Lf U}(h:bin TI b t (eG s x) (eG s y)=some z):MO P Y.C E s a w β (.binOp b t x y u) (.l z):=by
 generalize e:eG s x=f at h;generalize j:eG s y=n at h;unfold bin at h;split at h
 ·grind[aY7]
 ·grind[aY8]
 ·split at h
  ·rename_i i k z' d;have ht:=(aK6 (bM c d) rfl).1;split at h
   ·simp only[aj] at h;subst h;exact oI r (by simp_all[cEk,bJs])
   ·simp only[aj] at h;subst h;exact oI r (by simp_all[cEl,bJs])
   ·cases h
  ·cases h
 all_goals grind[Option.some.injEq,bTa,inl]
def aUb {xs:Array Operand}{x y:Operand}(h:xs.toList=[x,y]):xs= #[x,y]:=by grind
def Ku {α:Type}{xs:Array α}{x:α}(h:xs.toList=[x]):xs= #[x]:=by grind
def bHc (v:uS P TI=true)(r:bB Y.C E s a w β){op:Op}{x:Sv U}(h:pur Y TI s op=some x):MO P Y.C E s a w β op x:=by
 unfold pur at h;split at h
 ·simp only[aj] at h;subst h;exact λo ho=>⟨_,λw' _=>by simp[execOp,ho],jR r⟩
 ·simp only[aj] at h;subst h;exact λo ho=>⟨_,λw' _=>by simp[execOp,ho],jR r⟩
 ·rename_i c y z;split at h
  ·rename_i b hc;have G:a.eval c= .bool b:=mX r hc;cases b with
   |true=>simp only[ae,aj] at h;subst h;exact λo ho=>⟨_,λw' _=>by simp[execOp,ho,G,asBool],jR r⟩
   |false=>simp only[ac,aj] at h;subst h;exact λo ho=>⟨_,λw' _=>by simp[execOp,ho,G,asBool],jR r⟩
  ·cases h
 ·rename_i y;split at h
  ·rename_i b off W;split at h
   ·rename_i T cs us rv cv F;simp only[aj] at h;subst h;rw[aR] at F;have hm:=mX r W;obtain⟨_,e,tr,h1,h2,B⟩:=mX r W;rw[F] at h1;injection h1 with h1;subst h1;obtain⟨bb,_,hv⟩:=B rfl;exact λo ho=>⟨a.eval y,λw' _=>by simp[execOp,ho,hv],hm⟩
   ·cases h
  ·cases h
 ·grind[Option.some.injEq,lT,cEh,dI,oI,not_,bJs]
 ·rename_i t u y;split at h
  ·rename_i k1 i1 z1 j i2 z2 k n h1 h2 B;simp only[aj] at h;subst h;exact lT r λ_=>cnv (by rw[(K5 (bM v h1) rfl).1];rfl) (K5 (bM v h2) rfl).1 (dI B)
  ·cases h
 ·rename_i t y f;split at h
  ·rename_i fs i z p h1 h2;split at h
   ·rename_i off ft n B;split at h
    ·rename_i q F;simp only[aj] at h;subst h;have D:=(aK7 (bM v h1) rfl).2.1;simp only[fld,aR] at B;have H:=(aY4 D B).1;rw[cl] at H;obtain⟨I,q1,q2⟩:=aK9 r H (mX r h2) F;exact λo ho=>⟨I,λw' _=>by simp[execOp,ho,q1],q2⟩
    ·cases h
   ·cases h
  ·cases h
 ·rename_i t y;split at h
  ·rename_i i p h1 h2;obtain⟨p',I,q1,q2,q3⟩:=bHb r (bM v h1) (mX r h2) h;exact λo ho=>⟨I,λw' he=>by simp[execOp,ho,q1,Instr.loadAt,Instr.sureAddr,q2 w' he],q3⟩
  ·cases h
 ·rename_i t y f;split at h
  ·rename_i fs i z cs h1 h2;split at h
   ·rename_i off ft n B;split at h
    ·rename_i j F;have D:=(aK7 (bM v h1) rfl).2.1;simp only[fld,aR] at B;have H:=(aY4 D B).2.1;rw[cl] at H;obtain⟨vs,q1,q2⟩:=cBa r (bVi h2);obtain⟨I,q3,q4⟩:=aY6 (bM v F) h q2;exact λo ho=>⟨I,λw' _=>by simp only[execOp,ho,q1,bQr H,q3,Sem.run_bind,Sem.run_pure,Result.andThen_ok,Sem.run_map],q4⟩
    ·cases h
   ·cases h
  ·cases h
 ·rename_i t ps;split at h
  ·rename_i fs k z h1;split at h
   ·rename_i cs h2;simp only[aj] at h;subst h;have J:=bM v h1;obtain⟨j,Q,k3,k4,k5⟩:=aX7 J;obtain⟨Z,_,R⟩:=aK7 J rfl;rcases R with⟨_,pls,k1,k2⟩|⟨rfl,L⟩
    rotate_left
    ·--an array:nothing is put in
     have S:ps.toList=[]:=by cases hp:ps.toList<;>grind[bOp,fld,aR]
     rw[S] at h2;simp only[bOp,aj] at h2;subst h2;refine λo ho=>⟨.agg Q.cells,λw' _=> ?_,Q.cells.toList,by simp,K6 k5⟩;unfold arB at L;cases V:P.underlying t with
     |none=>simp_all
     |some d=>cases d<;>simp[V] at L;rename_i n e;cases hi:P.info? e<;>simp_all[execOp,Instr.build,zeroValue,typeInfo,k3,k4,run_underlying,sizeOf,Instr.fill]
    obtain⟨res,k6,k7⟩:=bL4 r k2 h2 Q.cells (K6 k5);refine λo ho=>⟨.agg res,λw' _=> ?_,res.toList,by simp,k7⟩;unfold aYp at k1;cases V:P.underlying t with
    |none=>simp_all
    |some d=>
     cases d<;>simp[V] at k1;rename_i fds;have hm:=aYq (w:=w') k1;have hm':(fds.mapM λf=>(Prod.mk f.offset<$>sizeOf f.type:Sem (Nat×Nat))).run P w'= .ok pls.toArray w':=by rw[<-Array.toArray_toList (xs:=fds),List.mapM_toArray];simp[*]
     simp_all[Instr.fill,k6,execOp,Instr.build,zeroValue,typeInfo,k3,k4,run_underlying]
   ·cases h
  ·cases h
 ·rename_i y i;split at h
  ·rename_i xs h1;split at h
   ·rename_i c h2;simp only[aj] at h;subst h;rw[aR] at h2;have hm:=jR r (x:=y);rw[cC9 h1] at hm;obtain⟨vs,q1,q2,q3⟩:=hm;have hl:i<vs.length:=by grind
    exact λo ho=>⟨vs[i],λw' _=>by simp[execOp,ho,q1,Instr.extract,hl],Es (q3 i _ c (aa hl) h2)⟩
   ·cases h
  ·cases h
 ·rename_i xa ats;split at h
  ·rename_i y t A O;rw[Ku A,Ku O];split at h
   ·rename_i e ek eb i z p h1 h2;have hs:=(Kt (bM v h1) rfl).1;split at h
    ·cases h
    ·rename_i hns;cases hl:lenOf s.m p with
     |none=>simp_all
     |some q=>
      simp only[hl,aj] at h;subst h;cases p with
      |nil=>
       simp only[lenOf,aj] at hl;subst hl;have hv:∀E':VK.Env P g,VK.Ev E' (brS s false) y .nil:=λE'=>by
        have:vw s.m false (xW s y)= .nil:=by
         unfold eG at h2;cases ho:xW s y with
         |l z=>
          simp only[ho,Sv.l.injEq] at h2;cases z with
          |nil=>rfl
          |nat a=>simp only[rsv,aR] at h2;cases hn:s.m.ns[a]? <;>simp[hn] at h2
          |lt a n=>simp only[rsv,aR] at h2;cases hn:s.m.ns[a]? <;>simp[hn] at h2
          |_=>simp[rsv] at h2
         |_=>simp_all
        grind[bJq]
       grind[lT,cEn]
      |str z=>simp_all
      |_=>
       simp only[lenOf] at hl;split at hl
       ·rename_i τ l hr;simp only[aj] at hl;subst hl;exact lT r λ_=>cEm hs (bZ7 h2 hr)
       ·cases hl
   ·rename_i i z q h1 h2;simp only[aj] at h;subst h;exact lT r λ_=>cEo (Wp (bM v h1) rfl).1 (Wq h2)
   ·cases h
  ·cases h
 ·rename_i xa ats;split at h
  ·rename_i y z A;rw[aUb A];split at h
   ·rename_i k m k' n h1 h2;split at h
    ·rename_i he;subst he;simp only[aj] at h;subst h;exact lT r (by simp_all[mn2,dI])
    ·cases h
   ·cases h
  ·cases h
 ·rename_i xa ats;split at h
  ·rename_i y z A;rw[aUb A];split at h
   ·rename_i k m k' n h1 h2;split at h
    ·rename_i he;subst he;simp only[aj] at h;subst h;exact lT r (by simp_all[mx2,dI])
    ·cases h
   ·cases h
  ·cases h
 ·cases h
end
end Go.EV
namespace Go.EV
open Go.RowKit Go.VK
variable {U:Uni} {Y:Lay U} {TI:List (Nat×TInfo)} {P:Program} {g:GI} {E:Env U g}
section
variable {s:St U} {a:Act} {w:World} {β:List Tr} {α:Type}
def oJ {x:Operand}{n:Int}(h:Av (eG s x)=some n):∃k,eG s x= .l (.int k n):=by
 cases ho:eG s x with
 |l y=>
  cases y with
  |int k m=>rw[ho] at h;simp only[Av,aj] at h;subst h;exact⟨k,rfl⟩
  |_=>rw[ho] at h;cases h
 |_=>rw[ho] at h;cases h
def bTc (r:bB Y.C E s a w β){f:(τ:Nat)->List (U.El τ)->List (U.El τ)}{p D:Lf U}{τ:Nat}{l:List (U.El τ)}(hr:uQ s.m p=some (.sl τ l))(hs:bEg f s.m.o p=some D){v k:Value}(hm:p.mean Y.C w (E.X β) β s.m k)
  (h1:v.oneCell'=true) (hv:∀Z:Nat->Prop,Rd w Z [] k (.slice (U.K τ) (l.map (U.enc τ)))->Rd w Z [] v (.slice (U.K τ) ((f τ l).map (U.enc τ)))):D.mean Y.C w (E.X β) β s.m v:=by
 have own:∀(i c:Nat) (e:EO U),s.m.o[i]? =some e->e.cv=c->pE p=false->(∀t,β[i]? =some t->Rd w (λb=>E.X β b/\b∉t.all) [] k (.slice (U.K τ) (l.map (U.enc τ))))->(Lf.bor i c τ (f τ l):Lf U).mean Y.C w (E.X β) β s.m v:=λi c e he hc _ hrd=>by
  obtain⟨t,ht⟩:=r.hp.tr he;exact⟨⟨hc▸(r.hp.vers i e he).2,h1⟩,e,t,he,ht,λ_=>hv _ (hrd t ht)⟩
 cases p with
 |sl τ' l'=>simp only[uQ,aj,Lf.sl.injEq] at hr;obtain⟨rfl,hl⟩:=hr;obtain rfl:=dv hl;simp only[bEg,aj] at hs;subst hs;exact hv _ hm
 |own i q=>
  obtain⟨_,e,t,k1,k2,k3⟩:=hm;simp only[uQ,aR,k1] at hr;simp only[bEg,aR,k1] at hs;obtain⟨ob,rv,cv⟩:=e;cases ob with
  |tree τ' d l'=>
   cases hb:Nat.beq rv q with
   |false=>simp[hb] at hr
   |true=>simp only[hb,ae,aj,Lf.sl.injEq] at hr hs;obtain⟨rfl,hl⟩:=hr;obtain rfl:=dv hl;subst hs;refine own i cv _ k1 rfl rfl (λt' h=> ?_);rw[k2] at h;injection h with h;subst h;rw[k3 (ai hb)];exact(Hp.tree r.hp k2 k1 rfl).rd (λb hb'=>hb'.1) (λb hb' hn=>hn.2 hb')
  |_=>cases hr
 |bor i c τ' l'=>
  obtain⟨h0,e,t,k1,k2,k3⟩:=hm;simp only[uQ,okv,aR,k1] at hr;simp only[bEg,aj] at hs;cases hb:Nat.beq e.cv c with
  |false=>simp[hb] at hr
  |true=>simp only[hb,ae,aj,Lf.sl.injEq] at hr;obtain⟨rfl,hl⟩:=hr;obtain rfl:=dv hl;subst hs;refine own i c e k1 (ai hb) rfl (λt' h=> ?_);rw[k2] at h;injection h with h;subst h;exact k3 (ai hb)
 |inn i c τ0 q z j τ' l'=>
  have J:=hm;obtain⟨h0,e,t,k1,k2,k3⟩:=hm;have O:=hr;simp only[uQ,okv,aR,k1] at hr;simp only[bEg,aj] at hs;cases hb:Nat.beq e.cv c with
  |false=>simp[hb] at hr
  |true=>
   simp only[hb,ae,aj,Lf.sl.injEq] at hr;obtain⟨rfl,hl⟩:=hr;obtain rfl:=dv hl;subst hs;refine own i c e k1 (ai hb) rfl (λt' h=> ?_);rw[k2] at h;injection h with h;subst h;have hc:=ai hb;obtain⟨d,L,xs,F,a2,Q,G,R,H⟩:=k3 hc;have n:=r.hp.ok i t e k2 k1;rw[F] at n;obtain⟨_,S,b2,b3⟩:=n;obtain⟨l1,l2,x1,u,x2,B1,Bz,B2,g1,g2,I,T,V,W,o1,o2,o3,_⟩:=bJu r.hp k2 k1 F Q;have x:xs=x1++(u++x2):=by
    rcases eF R with⟨y,c2,c3,_⟩|⟨b,cur,y,_,_,_,c5,_,c7⟩
    ·have:=I.1;rw[c2] at this;simp at this;rw[c3,this.1,this.2.1,this.2.2];rfl
    ·rcases eF I with⟨d1,_⟩|⟨b',cur',d1,_,_,_,d5,_,d7⟩
     ·rw[y] at d1;cases d1
     ·rw[y] at d1;injection d1 with d1;subst d1;rw[c5] at d5;injection d5 with d5;injection d5 with d5;subst d5;rw[<-c7,<-d7]
   have A:u[j]? =some k:=by
    have B:j<u.length:=by rw[V,<-Y.C.hlen τ0 z];exact lt_of_some G
    rw[x,<-T,ax (dc _ _),cC,aq B] at H;exact H
   exact(o2.rd (Z:=λb=>E.X β b/\b∉t.all) (λb hb'=>hb'.1) (λb hb' hn=>hn.2 (by simp[Tr.all,W,hb']))).2 j k _ A G
 |_=>cases hs
def bJy (r:bB Y.C E s a w β){op:Op}{f:(τ:Nat)->List (U.El τ)->List (U.El τ)}{x:Operand}{p i:Lf U}{τ:Nat}{l:List (U.El τ)}(k:eG s x= .l p)(hr:uQ s.m p=some (.sl τ l))(hs:bEg f s.m.o p=some i)
  (a0 d:Nat) (e:a0<=d) (hb:d<=l.length) (n:f τ l=(l.take d).drop a0)
  (b:∀(A:Option Addr) (c:Nat),a.eval x= .slice A l.length c->l.length<=c->∀o:Oper,o.op=op->∀w',(execOp a.eval o).run P w'= .ok (.value (.slice (if c=a0 then A else A.map λq=>q.add (a0*U.K τ)) (d-a0) (c-a0))) w'):MO P Y.C E s a w β op (.l i):=λo ho=>by
 have hm:=mX r k;have h0:=(Qw r.hp hm hr (Z:=λ_=>False) (λ_ h=>h.elim) (.inr λ_ _ _ _ _ h=>h)).2;obtain⟨A,c,h1,h2,t⟩:=Rd.aBA (show Rd w _ [] (a.eval x) (.slice (U.K τ) (l.map (U.enc τ))) from h0);rw[bn] at h1 h2;refine⟨_,λw' _=>b A c h1 h2 o ho w',bTc r hr hs hm rfl λZ j=> ?_⟩;rw[h1] at j;rw[n,eN,List.map_take];exact j.sub e (by rw[bn];exact hb)
def bL7 (B:uS P TI=true)(r:bB Y.C E s a w β){t:TypeId}{x:Operand}{R hi:Option Operand}{K:Sv U->Option α}{z:α}(h:aDe Y TI s (.slice t x R hi none) K=some z):∃y,K y=some z/\MO P Y.C E s a w β (.slice t x R hi none) y:=by
 simp only[aDe] at h;split at h
 ·rename_i i k S str h1 h2;have ht:=(Wp (bM B h1) rfl).1;split at h
  ·rename_i v;split at h
   ·rename_i n hn;obtain⟨hg,h⟩:=kM h;obtain⟨q,hn⟩:=oJ hn;exact⟨_,h,bJx r λ_=>cEv hg ht (Wq h2) (dI hn)⟩
   ·cases h
  ·rename_i T;split at h
   ·rename_i n hn;obtain⟨hg,h⟩:=kM h;obtain⟨q,hn⟩:=oJ hn;exact⟨_,h,bJx r λ_=>cEw hg ht (Wq h2) (dI hn)⟩
   ·cases h
  ·rename_i T v;split at h
   ·rename_i m n hm hn;obtain⟨hg,h⟩:=kM h;obtain⟨q,hn⟩:=oJ hn;obtain⟨D,hm⟩:=oJ hm;exact⟨_,h,bJx r λ_=>cEu hg ht (Wq h2) (dI hm) (dI hn)⟩
   ·cases h
  ·cases h
 ·rename_i e ek eb k S p h1 h2;have I:=(Kt (bM B h1) rfl).1;obtain⟨H,ii,V,j,hz,F,W,Z,hk0⟩:=fH I;split at h
  ·rename_i τ l hr;cases b:K4 (U:=U) e ek τ with
   |false=>simp[b] at h
   |true=>
    simp only[b,ae] at h;simp only[K4,ab] at b;have he:e=τ:=ai b.1;have hk:U.K τ=ek:=ai b.2;subst he;split at h
    ·split at h
     ·rename_i J hs;refine⟨_,h,bJy r h2 hr hs 0 l.length (cm _) (ao _) (by simp) λA c u hc o ho w'=> ?_⟩
      simp[execOp,ho,u,Instr.sliceAt,Instr.slice,run_underlying H,Instr.sliceBounds,Instr.sliceBound,asIntOf,sizeOf,typeInfo,j,hc]
     ·cases h
    ·rename_i v;split at h
     ·rename_i n J hn hs;obtain⟨hg,h⟩:=kM h;rw[hn] at hs;obtain⟨q,d⟩:=oJ hn;have f:a.eval v= .int q n:=(mX r d).1;refine⟨_,h,bJy r h2 hr hs 0 n.toNat (cm _) hg.2 (by simp) λA c u hc o ho w'=> ?_⟩
      have G:(0<=n/\n<=(c:Int)):=⟨hg.1,by have:=hg.2;have:=hg.1;omega⟩;simp[execOp,ho,u,f,Instr.sliceAt,Instr.slice,run_underlying H,Instr.sliceBounds,Instr.sliceBound,asIntOf,G,sizeOf,typeInfo,j]
     ·cases h
    ·rename_i L;split at h
     ·rename_i n J hn hs;obtain⟨hg,h⟩:=kM h;rw[hn] at hs;obtain⟨q,d⟩:=oJ hn;have f:a.eval L= .int q n:=(mX r d).1;refine⟨_,h,bJy r h2 hr hs n.toNat l.length hg.2 (ao _) (by simp) λA c u hc o ho w'=> ?_⟩
      have G:(0<=n/\n<=(l.length:Int)):=⟨hg.1,by have:=hg.2;have:=hg.1;omega⟩;simp[execOp,ho,u,f,Instr.sliceAt,Instr.slice,run_underlying H,Instr.sliceBounds,Instr.sliceBound,asIntOf,G,sizeOf,typeInfo,j,F,hk]
     ·cases h
    ·rename_i L v;split at h
     ·rename_i n m J hn hm hs;obtain⟨hg,h⟩:=kM h;rw[hn,hm] at hs;obtain⟨q,d⟩:=oJ hn;obtain⟨D,O⟩:=oJ hm;have f:a.eval L= .int q n:=(mX r d).1;have Q:a.eval v= .int D m:=(mX r O).1;obtain⟨g1,g2,g3,g4⟩:=hg;refine⟨_,h,bJy r h2 hr hs n.toNat m.toNat (by omega) g4 (by simp) λA c u hc o ho w'=> ?_⟩
      have G:(0<=m/\m<=(c:Int)):=⟨g3,by omega⟩;have e2:(0<=n/\n<=((m.toNat:Nat):Int)):=⟨g1,by omega⟩;simp[execOp,ho,u,f,Q,Instr.sliceAt,Instr.slice,run_underlying H,Instr.sliceBounds,Instr.sliceBound,asIntOf,G,e2,sizeOf,typeInfo,j,F,hk];intro v;exfalso;omega
     ·cases h
  ·cases h
 ·cases h
end
end Go.EV
namespace Go.EV
open Go.RowKit Go.VK
variable {U:Uni} {Y:Lay U} {TI:List (Nat×TInfo)} {P:Program} {g:GI} {E:Env U g}
section
variable {s:St U} {a:Act} {w:World} {β:List Tr} {α:Type}
def bYq (r:bB Y.C E s a w β){x y:Operand}{c:Nat}{k:IntKind}{m n:Int}{t u:TypeId}(hc:xW s x= .l (.nat c))(b:eG s x= .l (.int k m))(d:eG s y= .l (.int k n)):MO P Y.C E s a w β (.binOp .lss t x y u) (.l (.lt c n)):=λo ho=>by
 obtain⟨v,h1,h2⟩:=oI (P:=P) r (λ_=>lss (t:=t) (u:=u) (dI b) (dI d)) o ho;refine⟨v,h1,?_⟩;have hm:=jR r (x:=x);rw[hc] at hm;obtain⟨i,f,k1,k2,k3⟩:=hm;have hk:k= .i64/\m=(i:Int):=by have:=(mX r b).1;simp_all
 obtain⟨rfl,rfl⟩:=hk;have hn:=(mX r d).2.2;exact⟨i,f,k1,h2,by simpa[IntKind.max,IntKind.signed,IntKind.bits] using hn⟩
def bVo (r:bB Y.C E s a w β){t:TypeId}{e ek eb:Nat}(h:slB P t e ek eb=true){x y:Operand}{i q0:Nat}{τ:Nat}{d:Bool}{l:List (U.El τ)}{rv cv:Nat}{k:IntKind}{q:Int}{z:U.El τ}(F:eG s x= .l (.own i q0))(G:eG s y= .l (.int k q))
  (ho:s.m.o[i]? =some ⟨.tree τ d l,rv,cv⟩) (hr:rv=q0) (hk:U.K τ=ek) (H:aN l q=some z):MO P Y.C E s a w β (.indexAddr t x y) (.l (.oel i cv τ q z 0)):=λo j=>by
 obtain⟨I,S,T,n,J,p,L,O,Q⟩:=fH h;obtain⟨h0,hq⟩:=J9 H;have hm:=mX r F;obtain⟨_,e',t',k1,k2,k3⟩:=hm;rw[ho] at k1;injection k1 with k1;subst k1;have hv:=k3 hr;have u:a.eval y= .int k q:=(mX r G).1;have v:=r.hp.ok i t' _ k2 ho;obtain⟨_,xs,R,_⟩:=v;have A:q.toNat<l.length:=lt_of_some hq;rcases eF R with⟨_,D,_⟩|⟨b,cur,b1,D,_⟩
 ·omega
 ·have f:a.eval x= .slice (some ⟨b,0,none⟩) l.length t'.c:=by rw[hv];simp[Tr.val,b1,D]
  refine⟨.pointer (some (Addr.add ⟨b,0,none⟩ (q.toNat*ek))),λw' _=> ?_,⟨⟨(r.hp.vers i _ ho).2,rfl⟩,⟨.tree τ d l,rv,cv⟩,t',ho,k2,λ_=>⟨d,l,b,rfl,h0,hq,b1,?_⟩⟩⟩
  ·have B:q.toNat<l.length:=A;simp[execOp,j,f,u,Instr.indexAt,asIntOf,run_underlying I,sizeOf,typeInfo,n,p,h0,B];intro V;exfalso;omega
  ·rw[fT,hk];simp
def bVp (r:bB Y.C E s a w β){t:TypeId}{e ek eb:Nat}(h:slB P t e ek eb=true){x y:Operand}{i c j τ τ' τ1:Nat}{q q':Int}{z:U.El τ}{l:List (U.El τ')}{L:List (U.El τ1)}{rv cv:Nat}{k:IntKind}{z':U.El τ'}(O:eG s x= .l (.inn i c τ q z j τ' l))(Q:eG s y= .l (.int k q'))
  (ho:s.m.o[i]? =some ⟨.tree τ1 true L,rv,cv⟩) (hr:cv=c) (hk:U.K τ'=ek) (R:aN l q'=some z'):MO P Y.C E s a w β (.indexAddr t x y) (.l (.oin i c τ q z j τ' l q' z' 0)):=λo n=>by
 obtain⟨S,ii,zz,p,T,v,V,W,Z⟩:=fH h;obtain⟨h0,hq⟩:=J9 R;obtain⟨g0,e',t',k1,k2,k3⟩:=mX r O;rw[ho] at k1;injection k1 with k1;subst k1;obtain⟨d,L1,xs,a1,a2,F,G,H,I⟩:=k3 hr;injection a1 with e1 e2 e3;subst e1;subst e2;obtain rfl:=dv e3;have A:a.eval y= .int k q':=(mX r Q).1;obtain⟨u,ys,b1,b2,b3,b4⟩:=bQx r.hp k2 ho rfl F G H I;have B:q'.toNat<l.length:=lt_of_some hq;rcases eF b2 with⟨_,J,_⟩|⟨b,cur,c1,J,_⟩
 ·omega
 ·have f:a.eval x= .slice (some ⟨b,0,none⟩) l.length u.c:=by rw[b1];simp[Tr.val,c1,J]
  refine⟨.pointer (some (Addr.add ⟨b,0,none⟩ (q'.toNat*ek))),λw' _=> ?_,⟨⟨g0.1,rfl⟩,_,t',ho,k2,λ_=>⟨_,xs,_,b,_,_,rfl,a2,F,G,H,I,f,h0,hq,?_⟩⟩⟩
  ·have D:q'.toNat<l.length:=B;simp[execOp,n,f,A,Instr.indexAt,asIntOf,run_underlying S,sizeOf,typeInfo,p,v,h0,D];intro hh;exfalso;omega
  ·rw[fT,hk];simp
def bVq (b:uS P TI=true)(r:bB Y.C E s a w β){e f:TypeId}{x:Operand}{ek eb k1 k2 k3:Nat}{h i j:List Kz}{p:Lf U}{l:List (U.El Y.bt)}(h1:kG TI e=some ⟨.sl Y.bt ek eb,k1,h⟩)(h2:kG TI f=some ⟨.str,k2,i⟩)(k:kG TI Y.bt=some ⟨.int .u8,k3,j⟩)
  (o:eG s x= .l p) (hr:uQ s.m p=some (.sl Y.bt l)) (hg:l.length<=68719476736):MO P Y.C E s a w β (.convert e f x) (.l (.str (bS2 (l.map Y.bi)))):=by
 have hK:U.K Y.bt=1:=by rw[<-Y.C.hlen Y.bt (Y.be 0),Y.hb];rfl
 have c:∀x,U.enc Y.bt x=[V.int .u8 (Y.bi x)]:=λx=>by rw[<-Y.C.hcel,Y.hb];rfl
 have d:l.map (U.enc Y.bt)=(l.map Y.bi).map λn=>[V.int .u8 n]:=by rw[gz];exact gk λx _=>c x
 refine bLy r false (λE'=>b2s (fH (Kt (bM b h1) rfl).1).1 (K5 (bM b k) rfl).1 (Wp (bM b h2) rfl).1 (ns:=l.map Y.bi) (by rw[bn];unfold maxLen;omega) ?_) λv hv=>bZ8 hv;have:=bZ7 (E':=E') o hr;rw[hK,d] at this;exact this
def bL8 {α:Type}{q:Int}{F:Nat->Option α}{z:α}:∀{n:Nat},brA q F n=some z->∃j,j<n/\q=(j:Int)/\F j=some z
 |0,h=>by cases h
 |n+1,h=>by
  have h:(bif decide (q=(n:Int)) then F n else brA q F n)=some z:=h;by_cases hq:q=(n:Int)
  ·rw[au hq] at h;exact⟨n,et _,hq,h⟩
  ·rw[av hq] at h;obtain⟨j,h1,h2,b⟩:=bL8 h;exact⟨j,by omega,h2,b⟩
def aHv (A:uS P TI=true)(r:bB Y.C E s a w β){op:Op}{K:Sv U->Option α}{z:α}(h:aDe Y TI s op K=some z):∃x,K x=some z/\MO P Y.C E s a w β op x:=by
 unfold aDe at h;split at h
 ·rename_i b t x y u;generalize B:eG s x=Z at h;generalize D:eG s y=vy at h;split at h
  ·rename_i k m k' n;split at h
   ·split at h
    ·rename_i he;subst he;split at h
     ·rename_i c hc;exact⟨_,h,bYq r hc B D⟩
     ·exact⟨_,h,oI r λ_=>lss (dI B) (dI D)⟩
    ·cases h
   ·split at h
    ·rename_i he;subst he;obtain⟨hg,h⟩:=kM h;exact⟨_,h,lT r λ_=>quo hg (dI B) (dI D)⟩
    ·cases h
   ·split at h
    ·rename_i he;subst he;obtain⟨hg,h⟩:=kM h;exact⟨_,h,lT r λ_=>rem hg (dI B) (dI D)⟩
    ·cases h
   ·obtain⟨hg,h⟩:=kM h;exact⟨_,h,lT r λ_=>cEr hg (dI B) (dI D)⟩
   ·obtain⟨hg,h⟩:=kM h;exact⟨_,h,lT r λ_=>cEs hg (dI B) (dI D)⟩
   ·split at h
    ·rename_i he;subst he;split at h
     ·rename_i z' G;exact⟨_,h,aY7 r B D G⟩
     ·cases h
    ·cases h
  ·rename_i m n;split at h
   ·obtain⟨hg,h⟩:=kM h;exact⟨_,h,bJx r λ_=>cEi hg (Wq B) (Wq D)⟩
   ·split at h
    ·rename_i z' G;exact⟨_,h,aY8 r B D G⟩
    ·cases h
  ·split at h
   ·rename_i z' G;refine⟨_,h,bTb A r ?_⟩;rw[B,D];exact G
   ·cases h
 ·rename_i t x y;split at h
  ·rename_i e ek eb k R p I q h1 h2 F;have H:=(Kt (bM A h1) rfl).1;split at h
   ·rename_i τ l;cases f:K4 (U:=U) e ek τ with
    |false=>simp[f] at h
    |true=>
     simp only[f,ae] at h;simp only[K4,ab] at f;have he:e=τ:=ai f.1;have hk:U.K τ=ek:=ai f.2;subst he;subst hk;obtain⟨c,hc,h⟩:=jN h;refine⟨_,h,bLy r true (λ_=>ixq hc H (cC7 h2) (dI F true)) λv hv=> ?_⟩
     show Rd w (E.X β) [] v (.elem ((U.enc e c).drop 0));rw[gh];exact hv.conv (ao _) (λb _ hb=>⟨rfl,hb⟩) (λ_ _ _ h=>h) (λ_ _ h=>h)
   ·rename_i i q0;split at h
    ·rename_i τ d l rv cv ho;rw[aR] at ho;cases f:(Nat.beq rv q0&&K4 (U:=U) e ek τ) with
     |false=>rw[f] at h;cases h
     |true=>rw[f] at h;simp only[ae] at h;simp only[K4,ab] at f;obtain⟨c,hc,h⟩:=jN h;exact⟨_,h,bVo r H h2 F ho (ai f.1) (ai f.2.2) hc⟩
    ·cases h
   ·rename_i i c τ q0 z j τ' l;split at h
    ·rename_i τ1 d L rv cv ho;rw[aR] at ho;cases f:(d&&(Nat.beq cv c&&K4 (U:=U) e ek τ')) with
     |false=>rw[f] at h;cases h
     |true=>rw[f] at h;simp only[ae] at h;simp only[K4,ab] at f;obtain⟨c',hc,h⟩:=jN h;obtain⟨rfl,f⟩:=f;exact⟨_,h,bVp r H h2 F ho (ai f.1) (ai f.2.2) hc⟩
    ·cases h
   ·cases h
  ·rename_i k R b0 off I q h1 h2 F;obtain⟨j,S,hq,J⟩:=bL8 h;subst hq;clear h;split at J
   ·rename_i y' G;rcases(aK7 (bM A h1) rfl).2.2 with⟨O,_⟩|⟨_,Q⟩
    ·exact absurd rfl O
    ·obtain⟨T,q1,q2⟩:=bJv r I Q S (mX r h2) G;have hv:a.eval y= .int I (j:Int):=(mX r F).1;exact⟨_,J,λo ho=>⟨T,λw' _=>by simp[execOp,ho,hv,q1],q2⟩⟩
   ·cases J
  ·cases h
 ·rename_i t x y;split at h
  ·rename_i k R z' I q h1 h2 F;obtain⟨c,hc,h⟩:=jN h;exact⟨_,h,lT r λ_=>cEt hc (Wp (bM A h1) rfl).1 (Wq h2) (dI F)⟩
  ·cases h
 ·exact bL7 A r (by unfold aDe;exact h)
 ·rename_i ta tb x;split at h
  ·rename_i e ek eb k1 z1 k2 z2 p h1 h2 F;split at h
   ·rename_i τ l k3 z3 hr V;split at h
    ·rename_i l' hs;obtain⟨rfl,hl⟩:=nM hs;have hl:=dv hl;subst hl;cases hb:Nat.beq e Y.bt with
     |false=>rw[hb] at h;cases h
     |true=>rw[hb] at h;obtain⟨hg,h⟩:=kM h;have he:=ai hb;subst he;refine⟨_,h,bVq A r h1 h2 V F hr hg⟩
    ·cases h
   ·cases h
  ·split at h
   ·rename_i W B;exact⟨W,h,bHc A r B⟩
   ·cases h
 ·split at h
  ·rename_i x B;exact⟨x,h,bHc A r B⟩
  ·cases h
def bVr (f:uS P TI=true)(r:bB Y.C E s a w β){t:TypeId}{x b:Operand}{e ek eb k i q0 τ:Nat}{v:List Kz}{d:Bool}{l:List (U.El τ)}{rv cv:Nat}{n:Int}(h1:kG TI t=some ⟨.sl e ek eb,k,v⟩)(h2:eG s x= .l (.own i q0))(y:Av (eG s b)=some n)
  (ho:s.m.o[i]? =some ⟨.tree τ d l,rv,cv⟩) (hr:rv=q0) (hk:U.K τ=ek) (hg:gI l n):MO P Y.C E s a w β (.slice t x (some b) none none) (.l (.suf i cv τ n l)):=λo h=>by
 obtain⟨z,L,A,j,O,p,B,D,F⟩:=fH (Kt (bM f h1) rfl).1;obtain⟨G,hn⟩:=oJ y;have q:a.eval b= .int G n:=(mX r hn).1;obtain⟨_,e',t',k1,k2,k3⟩:=mX r h2;rw[ho] at k1;injection k1 with k1;subst k1;have hv:=k3 hr;obtain⟨_,xs,H,_⟩:=r.hp.ok i t' _ k2 ho;have hlen:t'.n=l.length/\l.length<=t'.c:=by
  rcases eF H with⟨_,u,_,Q,R⟩|⟨b,cur,b1,u,I,_⟩
  ·omega
  ·exact⟨u,I⟩
 refine⟨aYs (U.K τ) t' n.toNat l.length,λw' _=> ?_,⟨⟨(r.hp.vers i _ ho).2,rfl⟩,_,t',ho,k2,λ_=>⟨d,rfl,hg.1,hg.2,rfl⟩⟩⟩;have J:(0<=n/\n<=(l.length:Int)):=⟨hg.1,by have:=hg.2;have:=hg.1;omega⟩;simp[execOp,h,hv,Tr.val,hlen.1,q,Instr.sliceAt,Instr.slice,run_underlying z,Instr.sliceBounds,Instr.sliceBound,asIntOf,J,sizeOf,typeInfo,j,p,hk,aYs]
end
end Go.EV
namespace Go.EV
open Go.RowKit Go.VK
variable {U:Uni} {Y:Lay U} {TI:List (Nat×TInfo)} {P:Program} {g:GI} {E:Env U g} {C:Cod U}
theorem sJ:∀{l:List Nat} {i:Nat},A7 i l=true↔i∈l
 |[],i=>by simp[A7]
 |x::l,i=>by
  have e:A7 i (x::l)=cond (Nat.beq x i) true (A7 i l):=rfl;rw[e,bl];cases hb:Nat.beq x i with
  |true=>simp[(ai hb).symm]
  |false=>simp only[ac];rw[sJ];exact⟨.inr,λh=>h.resolve_left (λe=>by rw[e,show Nat.beq x x=true from de x] at hb;cases hb)⟩
theorem Qz:∀{l:List Nat},dist l=true↔l.Nodup
 |[]=>by simp[dist]
 |x::l=>by
  have e:dist (x::l)=cond (A7 x l) false (dist l):=rfl;rw[e,co,<-Qz (l:=l),<-sJ (l:=l)];cases A7 x l<;>simp
theorem Ws {k:Nat}:∀{ids:List Nat} {o:List (EO U)},(kil k ids o).length=o.length
 |[],o=>rfl
 |i::ids,o=>by
  have e:kil k (i::ids) o=upd (kil k ids o) i ⟨.dead,k,k⟩:=rfl;rw[e,cK,ay,Ws]
def aP7 {k:Nat}:∀{ids:List Nat} {o:List (EO U)} {j:Nat},j∈ids->j<o.length->(kil k ids o)[j]? =some ⟨.dead,k,k⟩
 |[],o,j,h,_=>by simp at h
 |i::ids,o,j,h,c=>by
  have e:kil k (i::ids) o=upd (kil k ids o) i ⟨.dead,k,k⟩:=rfl;rw[e,cK];by_cases b:i=j
  ·subst b;rw[bm (by rw[Ws];exact c)]
  ·rw[bg b];exact aP7 (by rcases bl.1 h with h|h;exact absurd h.symm b;exact h) c
theorem Ef {k:Nat}:∀{ids:List Nat} {o:List (EO U)} {j:Nat},j∉ids->(kil k ids o)[j]? =o[j]?
 |[],o,j,_=>rfl
 |i::ids,o,j,h=>by
  have e:kil k (i::ids) o=upd (kil k ids o) i ⟨.dead,k,k⟩:=rfl;rw[e,cK,bg (λe=>h (by simp[e])),Ef (λb=>h (by simp[b]))]
def aP8:Tr:=⟨none,0,0,[]⟩
def pW:aP8.all=[]:=rfl
def bL9:List Nat->List Tr->List Tr
 |[],β=>β
 |i::ids,β=>(bL9 ids β).set i aP8
def aY9:∀{ids:List Nat} {β:List Tr},(bL9 ids β).length=β.length
 |[],_=>rfl
 |i::ids,β=>by simp[bL9,aY9]
def bQ1:∀{ids:List Nat} {β:List Tr} {j:Nat},j∈ids->j<β.length->(bL9 ids β)[j]? =some aP8
 |[],_,j,h,_=>by simp at h
 |i::ids,β,j,h,c=>by
  simp only[bL9];by_cases b:i=j
  ·subst b;rw[bm (by rw[aY9];exact c)]
  ·rw[bg b];exact bQ1 (by rcases bl.1 h with h|h;exact absurd h.symm b;exact h) c
def aZa:∀{ids:List Nat} {β:List Tr} {j:Nat},j∉ids->(bL9 ids β)[j]? =β[j]?
 |[],_,j,_=>rfl
 |i::ids,β,j,h=>by
  simp only[bL9];rw[bg (λe=>h (by simp[e])),aZa (λb=>h (by simp[b]))]
section
variable {s:St U} {a:Act} {w w':World} {β:List Tr}
theorem bB.add (r:bB C E s a w β)(he:Ext w w')(bs:List (EO U×Tr))(hv:∀x∈bs,x.1.rv<=s.m.k/\x.1.cv<=s.m.k)(hb:∀x∈bs,∀b∈x.2.all,w.heap.size<=b/\b<w'.heap.size)
  (f:((bs.map λx=>x.2.all).flatten).Nodup)
  (l:Evo w w' (E.X β) (E.X (β++bs.map (·.2))) β (β++bs.map (·.2)) s.m ⟨s.m.o++bs.map (·.1),s.m.k,s.m.ns⟩ s.m.o.length s.m.ns.length s.m.k->∀x∈bs,x.1.ob.ok C w' (E.X (β++bs.map (·.2))) (β++bs.map (·.2)) ⟨s.m.o++bs.map (·.1),s.m.k,s.m.ns⟩ x.2):
  bB C E ⟨s.t,⟨s.m.o++bs.map (·.1),s.m.k,s.m.ns⟩,s.fr⟩ a w' (β++bs.map (·.2)):=by
 have hlen:=r.hp.len;have d:∀(j:Nat) (t:Tr),s.m.o.length<=j->(β++bs.map (·.2))[j]? =some t->∃x,bs[j-s.m.o.length]? =some x/\t=x.2:=(by grind[List.getElem?_append_right,bs,Option.some.injEq]);have c:∀(j:Nat) (e:EO U),s.m.o.length<=j->(s.m.o++bs.map (·.1))[j]? =some e->∃x,bs[j-s.m.o.length]? =some x/\e=x.1:=(by grind[List.getElem?_append_right,bs,Option.some.injEq]);have p:∀{j:Nat},(False\/s.m.o.length<=j)->s.m.o.length<=j:=λh=>h.resolve_left id;have n:∀(i j:Nat) (x y:EO U×Tr) (b:Nat),i≠j->bs[i]? =some x->bs[j]? =some y->b∈x.2.all->b∉y.2.all:=(by grind[hp,List.pairwise_iff_getElem,List.getElem?_eq_some_iff,Nat.lt_or_gt_of_ne]);obtain⟨h1,h2⟩:=r.hp.step (s':=⟨s.m.o++bs.map (·.1),s.m.k,s.m.ns⟩) (β':=β++bs.map (·.2)) (w':=w') (λ_=>False) (λ_=>False) (ao _) (by simp_all) r.hp.cnt (by simp[hlen]) (by simp) he.size he.os he.tape he.output
  (λb hb _=>he.block b hb) (λ_ h=>h.elim) (by grind[List.getElem?_append_left])
  (by grind)
  (by grind)
  (by grind[List.mem_of_getElem?])
  (by grind[List.mem_of_getElem?])
  (by simp)
  (by grind)
 exact r.go h1 h2
def bB.turn (r:bB C E s a w β){i:Nat}{J:List Nat}{e:EO U}{t t':Tr}{ob:Ob U}{rv:Nat}(hi:s.m.o[i]? =some e)(ht:β[i]? =some t)(hJ:(i::J).Nodup)
  (hsz:w.heap.size<=w'.heap.size) (hos:w'.os=w.os) (D:w'.tape=w.tape) (I:w'.output=w.output) (F:∀b,b<w.heap.size->b∉t.all->w'.heap[b]? =w.heap[b]?)
  (L:∀b∈t'.all,b<w'.heap.size/\(w.heap.size<=b\/b∈t.all\/∃j∈J,∃u,β[j]? =some u/\b∈u.all)) (hnd:t'.all.Nodup) (O:(rv=e.rv/\t'.val=t.val)\/rv=s.m.k+1)
  (Q:ob.aAW=true->e.ob.aAW=true/\t'.b=t.b)
  (hok:∀(β':List Tr) (m':Mm U),Evo w w' (E.X β) (E.X β') β β' s.m m' s.m.o.length s.m.ns.length s.m.k->ob.ok C w' (E.X β') β' m' t'):
  ∃β',bB C E ⟨s.t,⟨kil (s.m.k+1) J (upd s.m.o i ⟨ob,rv,s.m.k+1⟩),s.m.k+1,s.m.ns⟩,s.fr⟩ a w' β'/\β'[i]? =some t'/\Evo w w' (E.X β) (E.X β') β β' s.m ⟨kil (s.m.k+1) J (upd s.m.o i ⟨ob,rv,s.m.k+1⟩),s.m.k+1,s.m.ns⟩ s.m.o.length s.m.ns.length s.m.k:=by
 have R:i∉J:=(co.1 hJ).1;have S:i<s.m.o.length:=lt_of_some hi;have hlen:=r.hp.len;let B:=kil (s.m.k+1) J (upd s.m.o i ⟨ob,rv,s.m.k+1⟩);let β':=bL9 J (β.set i t');have T:B.length=s.m.o.length:=by simp only[B,Ws,cK,ay]
 have hbl:β'.length=β.length:=by simp only[β',aY9,ay]
 have x:B[i]? =some ⟨ob,rv,s.m.k+1⟩:=by simp only[B];rw[Ef R,cK,bm S]
 have v:β'[i]? =some t':=by simp only[β'];rw[aZa R,bm (by rw[hlen];exact S)]
 have y:∀j∈J,j<s.m.o.length->B[j]? =some ⟨.dead,s.m.k+1,s.m.k+1⟩:=λj l hl=>aP7 l (by rw[cK,ay];exact hl);have V:∀j∈J,j<s.m.o.length->β'[j]? =some aP8:=λj l hl=>bQ1 l (by rw[ay,hlen];exact hl);have W:∀j,j≠i->j∉J->B[j]? =s.m.o[j]? :=λj h1 h2=>by simp only[B];rw[Ef h2,cK,bg (Ne.symm h1)]
 have Z:∀j,j≠i->j∉J->β'[j]? =β[j]? :=λj h1 h2=>by simp only[β'];rw[aZa h2,bg (Ne.symm h1)]
 have p:∀j,((j=i\/j∈J)\/s.m.o.length<=j)->j=i\/(j∈J/\j<s.m.o.length)\/s.m.o.length<=j:=λj h=>by
  rcases h with(h|h)|h
  ·exact .inl h
  ·by_cases hl:j<s.m.o.length
   ·exact .inr (.inl ⟨h,hl⟩)
   ·exact .inr (.inr (by omega))
  ·exact .inr (.inr h)
 have A:∀(j:Nat) (u:Tr),((j=i\/j∈J)\/s.m.o.length<=j)->β'[j]? =some u->(j=i/\u=t')\/u=aP8:=λj u h d=>by
  rcases p j h with rfl|⟨h1,h2⟩|h1
  ·rw[v] at d;injection d with d;exact .inl ⟨rfl,d.symm⟩
  ·rw[V j h1 h2] at d;injection d with d;exact .inr d.symm
  ·have:=lt_of_some d;omega
 obtain⟨h1,h2⟩:=r.hp.step (s':=⟨B,s.m.k+1,s.m.ns⟩) (β':=β') (w':=w') (λj=>j=i\/j∈J) (λb=>b∈t.all\/∃j∈J,∃u,β[j]? =some u/\b∈u.all) (dy _) (λ_ _ f h=>⟨f,h⟩) r.hp.cnt (by rw[hbl,T,hlen]) (by rw[T];exact ao _) hsz hos D I
  (λb hb hn=>F b hb (λh=>hn (.inl h)))
  (λb hb=>by
   rcases hb with hb|⟨j,l,u,d,hub⟩
   ·exact⟨i,t, .inl rfl,ht,hb⟩
   ·exact⟨j,u, .inr l,d,hub⟩)
  (λj l _=>⟨W j (λe=>l (.inl e)) (λe=>l (.inr e)),Z j (λe=>l (.inl e)) (λe=>l (.inr e))⟩)
  (λj u b l d hb=>by
   rcases A j u l d with⟨_,rfl⟩|rfl
   ·obtain⟨q1,q2⟩:=L b hb;refine⟨q1,q2.imp id λq=> ?_⟩;rcases q with q|⟨j',G,u',n,hub'⟩
    ·exact⟨i,t, .inl rfl,ht,q⟩
    ·exact⟨j',u', .inr G,n,hub'⟩
   ·simp[pW] at hb)
  (λj j' u u' b l G hjj d n hb hb'=>by
   rcases A j u l d with⟨e1,rfl⟩|rfl
   ·rcases A j' u' G n with⟨e2,rfl⟩|rfl
    ·exact hjj (e1.trans e2.symm)
    ·simp[pW] at hb'
   ·simp[pW] at hb)
  (λj u l d=>by
   rcases A j u l d with⟨_,rfl⟩|rfl
   ·exact hnd
   ·rw[pW];exact io)
  (λj e' l c=>by
   rcases p j l with rfl|⟨q1,q2⟩|q
   ·rw[x] at c;injection c with c;subst c;refine⟨?_,ao _⟩;rcases O with⟨h,_⟩|h
    ·have:=(r.hp.vers _ e hi).1;simp only;omega
    ·simp only;omega
   ·rw[y j q1 q2] at c;injection c with c;subst c;exact⟨ao _,ao _⟩
   ·have:=lt_of_some c;simp only at this;omega)
  (λj e0 e' u u' l z c d n=>by
   rcases l with rfl|l
   ·rw[x] at c;injection c with c;subst c;rw[hi] at z;injection z with z;subst z;rw[ht] at d;injection d with d;subst d;rw[v] at n;injection n with n;subst n;refine⟨λH=> ?_,et _,Q⟩;rcases O with h|h
    ·exact h
    ·simp only at H;omega
   ·have hl:=lt_of_some z;rw[y j l hl] at c;injection c with c;subst c;exact⟨λH=>by simp only at H;omega,et _,λh=>by cases h⟩)
  (λhev j u e' l d c=>by
   rcases p j l with rfl|⟨q1,q2⟩|q
   ·rw[x] at c;injection c with c;subst c;rw[v] at d;injection d with d;subst d;exact hok _ _ hev
   ·rw[y j q1 q2] at c;injection c with c;subst c;trivial
   ·have:=lt_of_some c;simp only at this;omega)
 exact⟨β',r.go h1 h2,v,h2⟩
def kU (β:List Tr)(ids:List Nat):List Nat:=(ids.map λj=>match β[j]? with|some t=>t.all|none=>[]).flatten
def Eg {ids:List Nat}{b:Nat}(h:b∈kU β ids):∃j∈ids,∃u,β[j]? =some u/\b∈u.all:=by
 grind[kU,List.mem_flatten]
def bJz (H:Hp C E s.m β w){ids:List Nat}(h:ids.Nodup):(kU β ids).Nodup:=by
 unfold kU;refine List.pairwise_flatten.2 ⟨λl hl=> ?_,?_⟩
 ·obtain⟨j,_,rfl⟩:=cz.1 hl;cases d:β[j]? with
  |none=>simp
  |some u=>exact H.nd j u d
 ·rw[List.pairwise_map];refine h.imp λ{j j'} e b hb f hb'=> ?_;rintro rfl;cases d:β[j]? with
  |none=>simp_all
  |some u=>
   cases c:β[j']? with
   |none=>simp_all
   |some u'=>simp only[d] at hb;simp only[c] at hb';exact H.dist j j' u u' b e d c hb hb'
def aLa {i j:List Nat}:kU β (i++j)=kU β i++kU β j:=by simp[kU]
def bHd (H:Hp C E s.m β w){kd:Kd}{x y:Lf U}{ids:List Nat}{d:Bool}(h:bLu s.m kd x=some (y,ids,d)){v:Value}(hm:x.mean C w (E.X β) β s.m v)(hK:∀τ,kd= .sl τ->0<U.K τ):Ow C w (E.X β) d v y (kU β ids):=by
 have flat:∀{x:Lf U},x.mean C w (E.X β) β s.m v->pE x=true->(∀τ l,x≠ .sl τ l)->(match uQ s.m x with|some y=>some (y,([]:List Nat),true)|none=>none)=some (y,ids,d)->Ow C w (E.X β) d v y (kU β ids):=λ{x} hm f j h=>by
  cases hr:uQ s.m x with
  |none=>simp[hr] at h
  |some y'=>
   simp only[hr,aj,cD] at h;obtain⟨rfl,rfl,rfl⟩:=h;have:=(Qw H hm hr (Z:=λ_=>False) (λ_ h=>h.elim) (.inl f)).2;have hb:kU β []=[]:=rfl;rw[hb];cases x with
   |int k n=>simp only[uQ,aj] at hr;subst hr;obtain⟨rfl,h1,h2⟩:=this.aAR;exact .int h1 h2
   |bool k=>simp only[uQ,aj] at hr;subst hr;obtain rfl:=this.aAU;exact .bool
   |str k=>simp only[uQ,aj] at hr;subst hr;obtain⟨rfl,h1⟩:=this.aAT;exact .str h1
   |nat c=>
    simp only[uQ] at hr;split at hr
    ·simp only[aj] at hr;subst hr;obtain⟨rfl,h1,h2⟩:=this.aAR;exact .int h1 h2
    ·cases hr
   |lt c n=>
    simp only[uQ] at hr;split at hr
    ·simp only[aj] at hr;subst hr;obtain rfl:=this.aAU;exact .bool
    ·cases hr
   |sl τ l=>exact absurd rfl (j τ l)
   |own=>cases f
   |bor=>cases f
   |inn=>cases f
   |_=>cases hr
 cases x with
 |nil=>
  obtain rfl:=hm;cases kd with
  |sl τ=>simp only[bLu,aj,cD] at h;obtain⟨rfl,rfl,rfl⟩:=h;exact .sl aP8 (hK τ rfl) (World.ownsRow_nil w 0 τ (U.K τ)) .n
  |_=>cases h
 |sl τ l=>simp only[bLu,aj,cD] at h;obtain⟨rfl,rfl,rfl⟩:=h;exact .fz rfl hm
 |own i q=>
  obtain⟨_,e,t,k1,k2,k3⟩:=hm;simp only[bLu,aR,k1] at h;obtain⟨ob,rv,cv⟩:=e;cases ob with
  |tree τ d' l=>
   cases hb:Nat.beq rv q with
   |false=>simp[hb] at h
   |true=>simp only[hb,ae,aj,cD] at h;obtain⟨rfl,rfl,rfl⟩:=h;rw[k3 (ai hb)];have:=Hp.tree H k2 k1 rfl;simpa[kU,k2] using this
  |_=>cases h
 |bor=>cases h
 |inn=>cases h
 |suf i c τ q l=>
  obtain⟨_,e,t,k1,k2,k3⟩:=hm;simp only[bLu,aR,k1] at h;obtain⟨ob,rv,cv⟩:=e;cases ob with
  |tree τ' d' l'=>
   cases hb:Nat.beq cv c with
   |false=>simp[hb] at h
   |true=>simp only[hb,ae,aj,cD] at h;obtain⟨rfl,rfl,rfl⟩:=h;obtain⟨d0,o,B,p,rfl⟩:=k3 (ai hb);injection o with r u z;subst r;subst u;obtain rfl:=dv z;obtain⟨h1,xs,h2,A⟩:=H.ok i t _ k2 k1;have:=Ow.su rfl t q.toNat h1 p h2 A.soft;simpa[kU,k2] using this
  |_=>cases h
 |int k n=>exact flat hm rfl (by simp) h
 |bool b=>exact flat hm rfl (by simp) h
 |str b=>exact flat hm rfl (by simp) h
 |nat c=>exact flat hm rfl (by simp) h
 |lt c n=>exact flat hm rfl (by simp) h
 |_=>cases h
def Ow.fl {X:Nat->Prop}{d d':Bool}{v:Value}{x:Lf U}{B:List Nat}(h:Ow C w X d v x B)(hd:d'=true->d=true):Ow C w X d' v x B:=by
 cases d' with
 |false=>exact h.soft
 |true=>simp_all
def OwL.fl {X:Nat->Prop}{d d':Bool}{v:List Value}{x:List (Lf U)}{B:List Nat}(h:OwL C w X d v x B)(hd:d'=true->d=true):OwL C w X d' v x B:=by
 cases d' with
 |false=>exact h.soft
 |true=>simp_all
def Ra (H:Hp C E s.m β w):∀{ks:List Kd} {xs ys:List (Lf U)} {ids:List Nat} {d:Bool} {vs:List Value},aU5 s.m ks xs=some (ys,ids,d)->Ms C w (E.X β) β s.m vs xs->(∀kd∈ks,∀τ,kd= .sl τ->0<U.K τ)->OwL C w (E.X β) d vs ys (kU β ids)
 |[],[],ys,ids,d,vs,h,e,_=>by
  simp only[aU5,aj,cD] at h;obtain⟨rfl,rfl,rfl⟩:=h;have:vs=[]:=cj e.1;subst this;exact .n
 |[],_::_,_,_,_,_,h,_,_=>by cases h
 |_::_,[],_,_,_,_,h,_,_=>by cases h
 |kd::ks,x::xs,ys,ids,d,vs,h,e,hK=>by
  simp only[aU5] at h;cases h1:bLu s.m kd x with
  |none=>simp[h1] at h
  |some q=>
   obtain⟨y,i,d1⟩:=q;cases h2:aU5 s.m ks xs with
   |none=>simp[h1,h2] at h
   |some q2=>
    obtain⟨j,is,ds⟩:=q2;simp only[h1,h2,aj,cD] at h;obtain⟨rfl,rfl,rfl⟩:=h
    match vs,e with
    |[],e=>have:=e.1;simp at this
    |v::vs,e=>rw[aLa];refine .c ((bHd H h1 (e.2 0 v x rfl rfl) (hK kd (by simp))).fl (by simp;exact λh _=>h)) ((Ra H h2 ⟨by have:=e.1;simpa using this,λi u c a b=>e.2 (i+1) u c (by simpa using a) (by simpa using b)⟩ (λf hk=>hK f (by simp[hk]))).fl (by simp))
end
end Go.EV
namespace Go.EV
open Go.RowKit Go.VK
variable {U:Uni} {Y:Lay U} {TI:List (Nat×TInfo)} {P:Program} {g:GI} {E:Env U g}
def kdL:Lf U->Option Kd
 | .int k _=>some (.int k)
 | .bool _=>some .bool
 | .str _=>some .str
 | .sl τ _=>some (.sl τ)
 |_=>none
def bVs {cs:List (Lf U)}{ks:List Kd}(h:cs.map kdL=ks.map some):∀c∈cs,c.aBB=true:=λc hc=>by
 have h1:kdL c∈cs.map kdL:=(by grind);rw[h] at h1;obtain⟨k,_,hk⟩:=cz.1 h1;cases c<;>first|rfl|cases hk
structure LayOk (Y:Lay U):Prop where
 kds:∀(τ:Nat) (x:U.El τ),(Y.C.cel τ x).map kdL=(Y.kd τ).map some
 pos:∀(τ τ':Nat),Kd.sl τ'∈Y.kd τ->0<U.K τ'
section
variable {s:St U} {a:Act} {w:World} {β:List Tr} {α:Type}
def SO (P:Program)(C:Cod U)(E:Env U g)(a:Act)(w:World)(o:Oper)(x:Sv U)(s':St U)(e:Bool):Prop:=
 ∀(K:Act->World->Prop) (Q:Exit->Act->World->Prop),(∀v w' β',bB C E s' a w' β'->(o.dst≠none->x.mean C w' (E.X β') β' s'.m v)->(e=true->Ext w w')->K (a.put o.dst v) w')->o.wp P a w K Q
def SO.aCS (r:bB Y.C E s a w β){o:Oper}{x:Sv U}(h:MO P Y.C E s a w β o.op x):SO P Y.C E a w o x s true:=λK Q hK=>by
 obtain⟨v,h1,h2⟩:=h o rfl
 grind[wpo,inl,Ext.refl]
def SO.soft {o:Oper}{x:Sv U}{s':St U}{e:Bool}{C:Cod U}(h:SO P C E a w o x s' e):SO P C E a w o x s' false:=λK Q hK=>h K Q (by grind)
def bVt (w:World)(cs:Array Value)(T:Nat):(w.alloc (.cells cs T)).heap[w.heap.size]? =some (.cells cs T (0,0)):=by grind[heap_alloc_new]
def bB.aCE (r:bB Y.C E s a w β){T:Nat}{vs:Array Value}{cs:List (Lf U)}(d:Ms Y.C w (E.X β) β s.m vs.toList cs):
  ∃β',bB Y.C E (psh s (.box T cs (cs.map λ_=>s.m.k))) a (w.alloc (.cells vs T)) β'/\(Lf.box (len s.m.o) 0:Lf U).mean Y.C (w.alloc (.cells vs T)) (E.X β') β' (psh s (.box T cs (cs.map λ_=>s.m.k))).m (.pointer (some ⟨w.heap.size,0,none⟩)):=by
 have he:Ext w (w.alloc (.cells vs T)):=Ext.alloc _ _;have e:=r.add he [(⟨.box T cs (cs.map λ_=>s.m.k),s.m.k,s.m.k⟩,⟨some w.heap.size,0,0,[]⟩)] (by simp) (by simp[Tr.all]) (by simp[Tr.all]) (λb x c=>by
  simp at c;subst c;exact⟨by simp,w.heap.size,vs.toList,rfl,rfl,by simpa using bVt w vs T,d.go b⟩)
 refine⟨_,e,rfl,⟨.box T cs (cs.map λ_=>s.m.k),s.m.k,s.m.k⟩,⟨some w.heap.size,0,0,[]⟩,?_,?_,λ_=>⟨_,rfl,rfl⟩⟩
 ·simp[psh,bL]
 ·rw[ax (by rw[r.hp.len,bL];omega),r.hp.len,bL];simp
def bTd (r:bB Y.C E s a w β){o:Oper}{T:TypeId}{x:Operand}(ho:o.op= .box T x){cs:List (Lf U)}(hp:parts (xW s x)=some cs)(h1:Qv cs=true):
  SO P Y.C E a w o (.l (.box (len s.m.o) 0)) (psh s (.box T cs (cs.map λ_=>s.m.k))) true:=λK Q hK=>by
 have b:=(Fh (jR r (x:=x)) hp h1).1;obtain⟨β',c,d⟩:=r.aCE (T:=T) b;refine wpo (w':=w.alloc (.cells (a.eval x).cells T)) (v:= .pointer (some ⟨w.heap.size,0,none⟩)) (.inl ?_) (hK _ _ β' c (λ_=>d) (λ_=>Ext.alloc _ _));simp[execOp,ho,Instr.box,newVar,newRow]
def bMa (b:uS P TI=true)(r:bB Y.C E s a w β){o:Oper}{T:TypeId}{i:TInfo}(ho:o.op= .alloc T)(f:kG TI T=some i):
  SO P Y.C E a w o (.l (.box (len s.m.o) 0)) (psh s (.box T (i.z.map Kz.lf) (i.z.map λ_=>s.m.k))) true:=λK Q hK=>by
 obtain⟨j,z,k3,k4,k5⟩:=aX7 (bM b f);have h:Ms Y.C w (E.X β) β s.m z.cells.toList (i.z.map Kz.lf):=K6 k5;obtain⟨β',c,d⟩:=r.aCE (T:=T) h;have e:((i.z.map (Kz.lf:Kz->Lf U)).map λ_=>s.m.k)=i.z.map λ_=>s.m.k:=by simp
 rw[e] at c d;refine wpo (w':=w.alloc (.cells z.cells T)) (v:= .pointer (some ⟨w.heap.size,0,none⟩)) (.inl ?_) (hK _ _ β' c (λ_=>d) (λ_=>Ext.alloc _ _));simp[execOp,ho,Instr.alloc,zeroValue,typeInfo,k3,k4,newVar,newRow]
def bB.aCL (r:bB Y.C E s a w β){τ n:Nat}{cells:Array Value}{l:List (U.El τ)}{d:Bool}(hk:0<U.K τ)(hn:l.length=n)(hm:n<=maxLen)(hsz:cells.size=n*U.K τ)
  (e:OwL Y.C w (E.X β) d cells.toList (l.map (Y.C.cel τ)).flatten []):
  ∃β',bB Y.C E (psh s (.tree τ d l)) a (w.alloc (.cells cells τ)) β'/\(Lf.own (len s.m.o) s.m.k:Lf U).mean Y.C (w.alloc (.cells cells τ)) (E.X β') β' (psh s (.tree τ d l)).m (.slice (some ⟨w.heap.size,0,none⟩) n n):=by
 have he:Ext w (w.alloc (.cells cells τ)):=Ext.alloc _ _;have f:=r.add he [(⟨.tree τ d l,s.m.k,s.m.k⟩,⟨some w.heap.size,n,n,[]⟩)] (by simp) (by simp[Tr.all]) (by simp[Tr.all]) (λb x c=>by
  simp at c;subst c;refine⟨hk,cells.toList,?_,e.conv b.sz b.hX b.hc (by simp)⟩;rw[hn];exact World.ownsRow_lit w cells n (cm _) hm hsz)
 refine⟨_,f,⟨ao _,rfl⟩,⟨.tree τ d l,s.m.k,s.m.k⟩,⟨some w.heap.size,n,n,[]⟩,?_,?_,λ_=>rfl⟩
 ·simp[psh,bL]
 ·rw[ax (by rw[r.hp.len,bL];omega),r.hp.len,bL];simp
theorem OwL.flatten {C:Cod U}{X:Nat->Prop}{d:Bool}:∀{vss:List (List Value)} {xss:List (List (Lf U))},vss.length=xss.length->(∀(i:Nat) (vs:List Value) (xs:List (Lf U)),vss[i]? =some vs->xss[i]? =some xs->OwL C w X d vs xs [])->OwL C w X d vss.flatten xss.flatten []
 |[],[],_,_=> .n
 |[],_::_,h,_=>by simp at h
 |_::_,[],h,_=>by simp at h
 |vs::vss,xs::xss,h,h1=>by
  have:=OwL.app (h1 0 vs xs rfl rfl) (OwL.flatten (vss:=vss) (xss:=xss) (by simpa using h) λi vs xs a b=>h1 (i+1) vs xs (by simpa using a) (by simpa using b));simpa using this
def bMb (hY:LayOk Y)(r:bB Y.C E s a w β){e:Nat}:∀{ks:List Kd} {b:List Kz} {ds:List (Lf U)} {vs:List Value},rds s.m ks (b.map Kz.lf)=some ds->bOx vs b=true->(∀τ',Kd.sl τ'∈ks->0<U.K τ')->OwL Y.C w (E.X β) true vs ds []
 |[],[],ds,[],h,_,_=>by simp only[eL,rds,aj] at h;subst h;exact .n
 |[],_::_,_,_,h,_,_=>by cases h
 |_::_,[],_,_,h,_,_=>by cases h
 |_,[],_,_::_,_,h,_=>by cases h
 |_,_::_,_,[],_,h,_=>by cases h
 |kd::ks,z::b,ds,v::vs,h,d,hp=>by
  simp only[bw,rds] at h;simp only[bOx,ab] at d;cases h1:rdn s.m kd (z.lf:Lf U) with
  |none=>simp[h1] at h
  |some y=>
   cases h2:rds s.m ks (b.map (Kz.lf:Kz->Lf U)) with
   |none=>simp[h1,h2] at h
   |some ys=>
    simp only[h1,h2,aj] at h;subst h;have hm:(z.lf:Lf U).mean Y.C w (E.X β) β s.m v:=bQz d.1;have ho:Ow Y.C w (E.X β) true v y []:=by
     cases z with
     |int k=>simp only[Kz.lf,rdn,uQ,aj] at h1;subst h1;obtain⟨rfl,q1,q2⟩:=hm;exact .int q1 q2
     |bool=>simp only[Kz.lf,rdn,uQ,aj] at h1;subst h1;obtain rfl:=hm;exact .bool
     |str=>simp only[Kz.lf,rdn,uQ,aj] at h1;subst h1;obtain⟨rfl,q1⟩:=hm;exact .str q1
     |nil=>
      obtain rfl:=hm;cases kd with
      |sl τ=>simp only[Kz.lf,rdn,aj] at h1;subst h1;exact .sl aP8 (hp τ (by simp)) (World.ownsRow_nil w 0 τ (U.K τ)) .n
      |_=>cases h1
    have:=OwL.c ho (bMb hY r (e:=e) h2 d.2 (λτ' f=>hp τ' (by simp[f])));simpa using this
theorem bTe {x y:Operand}(h:aYw x y=true):x=y:=by
 cases x<;>cases y<;>simp only[aYw] at h
 ·rw[ai h]
 all_goals first|cases h|skip
 rename_i v u;split at h<;>simp_all
def bOz (c:uS P TI=true)(hY:LayOk Y)(r:bB Y.C E s a w β){o:Oper}{t:TypeId}{x y:Operand}{e ek eb k:Nat}{W:List Kz}{i:TInfo}{n:Int}{ds:List (Lf U)}{z:U.El e}(ho:o.op= .makeSlice t x y)
  (h1:kG TI t=some ⟨.sl e ek eb,k,W⟩) (h2:kG TI e=some i) (Z:eG s x= .l (.int .i64 n)) (h4:aYw x y=true) (h5:Nat.ble eb 2048=true) (V:K4 (U:=U) e ek e=true) (h7:rds s.m (Y.kd e) (i.z.map Kz.lf)=some ds) (h8:Y.C.bld e ds=some z) (hg:Qu n):
  SO P Y.C E a w o (.l (.own (len s.m.o) s.m.k)) (psh s (.tree e true (List.replicate n.toNat z))) true:=λK Q hK=>by
 have G:=(Kt (bM c h1) rfl).1;obtain⟨H,I,b,p,u,J,L,O,hk0⟩:=fH G;obtain⟨j,zc,k3,k4,k5⟩:=aX7 (bM c h2);rw[p] at k3;injection k3 with k3;subst k3;rw[u] at k4;injection k4 with k4;subst k4;simp only[K4,ab] at V;have A:U.K e=ek:=ai V.2;have hb':eb<=2048:=aE h5;have hnn:((n.toNat:Nat):Int)=n:=Int.toNat_of_nonneg hg.1;have hN:n.toNat<=68719476736:=by have:=hg.2;omega
 have hb:(I.bytes:Int)*n<=281474976710656:=by
  have h:((I.bytes*n.toNat:Nat):Int)<=281474976710656:=by rw[L];have:eb*n.toNat<=2048*68719476736:=ij hb' hN;omega
  simp_all
 have hxv:a.eval x= .int .i64 n:=(mX r Z).1;have hyv:a.eval y= .int .i64 n:=by grind[bTe]
 have B:=run_make (P:=P) w t e I b H p u .i64 .i64 n n hg.1 (Int.le_refl _) hb (by omega);rw[J,<-A] at B;have hO:OwL Y.C w (E.X β) true b.cells.toList (Y.C.cel e z) []:=by have:=bMb hY r (e:=e) h7 k5 (λτ' hh=>hY.pos e τ' hh);rw[Y.C.hmk e ds z h8] at this;exact this
 have F:(madeCells b.cells (n.toNat*U.K e)).toList=(List.replicate n.toNat b.cells.toList).flatten:=by
  apply List.ext_getElem?;intro q;have R:b.cells.size=U.K e:=by rw[O,A]
  have S:0<U.K e:=by omega
  by_cases hq:q<n.toNat*U.K e
  ·obtain⟨q0,q1,T,rfl⟩:∃q0 q1,q1<U.K e/\q=q0*U.K e+q1:=⟨q/U.K e,q%U.K e,Nat.mod_lt _ S,by rw[fa];exact(fX q _).symm⟩;have D:q0<n.toNat:=im (Nat.lt_of_le_of_lt (dc _ _) hq);obtain⟨l1,l2,_,_,f3,f4⟩:=aKy (f:=λ(_:Unit)=>b.cells.toList) (k:=U.K e) (by simp[*]) (l:=List.replicate n.toNat ()) (i:=q0) (x:=()) (by rw[List.getElem?_replicate,cu D]);have em:((List.replicate n.toNat ()).map λ(_:Unit)=>b.cells.toList)=List.replicate n.toNat b.cells.toList:=by simp
   rw[em] at f3;have hR:(List.replicate n.toNat b.cells.toList).flatten[q0*U.K e+q1]? =b.cells.toList[q1]? :=by rw[f3,<-f4,ax (dc _ _),cC,aq (by simp[R];exact T)]
   grind[q1,madeCells,Array.toList_map,Array.toList_range,List.getElem?_range,q0,Nat.mul_comm,Nat.mul_add_mod,Nat.mod_eq_of_lt]
  simp_all[eE,size_madeCells]
 obtain⟨β',r1,r2⟩:=r.aCL (τ:=e) (n:=n.toNat) (cells:=madeCells b.cells (n.toNat*U.K e)) (l:=List.replicate n.toNat z) (d:=true) (by omega) (by simp) (by grind[maxLen]) (size_madeCells _ _) (by
  grind[OwL.flatten,q1,q2,List.map_replicate])
 refine wpo (w':=w.alloc (.cells (madeCells b.cells (n.toNat*U.K e)) e)) (v:= .slice (some ⟨w.heap.size,0,none⟩) n.toNat n.toNat) (.inl ?_) (hK _ _ β' r1 (λ_=>r2) (λ_=>Ext.alloc _ _))
 grind[execOp,Sem.run_bind,Result.andThen_ok,Sem.run_pure]
end
end Go.EV
namespace Go.EV
open Go.RowKit Go.VK
variable {U:Uni} {Y:Lay U} {TI:List (Nat×TInfo)} {P:Program} {g:GI} {E:Env U g}
section
variable {s:St U} {a:Act} {w:World} {β:List Tr} {α:Type}
theorem bJ0 {t:Nat}{i:TInfo}(h:tiB P t i=true)(w:World):(sizeOf t).run P w= .ok i.k w:=by
 cases hi:i.u with
 |int k=>have:=K5 h hi;simp_all[wM]
 |bool=>have:=aK6 h hi;simp_all[wM]
 |str=>have:=Wp h hi;simp_all[wM]
 |sl e ek eb=>have:=Kt h hi;simp_all[wM]
 |st fs=>exact(Fb (aK7 h hi).1).2
def aLb (u:uS P TI=true)(r:bB Y.C E s a w β){o:Oper}{t:TypeId}{x y:Operand}{i:TInfo}{b off T rv cv:Nat}{cs ps:List (Lf U)}{q:List Nat}(ho:o.op= .store t x y)
  (h1:kG TI t=some i) (h2:eG s x= .l (.box b off)) (S:parts (xW s y)=some ps) (z:s.m.o[b]? =some ⟨.box T cs q,rv,cv⟩) (A:ps.length=i.k) (I:off+i.k<=cs.length) (V:Qv ps=true):
  ∃(w':World) (β':List Tr) (t':Tr) (f:Nat),(execOp a.eval o).run P w= .ok .skip w'/\bB Y.C E (trn s b (.box T (spl cs off ps) (spl q off (ps.map λ_=>Nat.succ s.m.k))) rv) a w' β'/\Evo w w' (E.X β) (E.X β') β β' s.m (trn s b (.box T (spl cs off ps) (spl q off (ps.map λ_=>Nat.succ s.m.k))) rv).m s.m.o.length s.m.ns.length s.m.k/\Bel (λk=>k=f) w w'/\β[b]? =some t'/\t'.b=some f:=by
 have B:=bM u h1;obtain⟨d,h⟩:=Fh (jR r (x:=y)) S V;have D:=mX r h2;obtain⟨_,e',t',k1,k2,k3⟩:=D;rw[z] at k1;injection k1 with k1;subst k1;obtain⟨f,k4,k5⟩:=k3 rfl;have F:=r.hp.ok b t' _ k2 z;obtain⟨q0,b',vs,q1,q2,q3,q4⟩:=F;rw[k4] at q1;injection q1 with q1;subst q1;have hl:off+(a.eval y).cells.toList.length<=vs.length:=by rw[d.1,A,q4.1];exact I
 have L:=aPz (P:=P) (T:=T) (t:=t) (b:=f) (off:=off) (cur:=vs) (vs:=(a.eval y).cells.toList) (v:=a.eval y) (w:=w) (by simp) (by rw[d.1,A];exact bJ0 B w) q3 hl h;obtain⟨O,Q,f3,R,W⟩:=Wj w f (vs.take off++(a.eval y).cells.toList++vs.drop (off+(a.eval y).cells.toList.length)).toArray;obtain⟨β',Z,_,e⟩:=r.turn (J:=[]) (ob:= .box T (spl cs off ps) (spl q off (ps.map λ_=>Nat.succ s.m.k))) (rv:=rv) (t':=t') z k2 (by simp) (by omega) Q f3 R
  (by grind[Tr.root,k4]) (λk hk=>⟨by rw[O];exact(r.hp.new b t' k k2 hk).2, .inr (.inl hk)⟩) (r.hp.nd b t' k2) (.inl ⟨rfl,rfl⟩) (λ_=>⟨rfl,rfl⟩) (λβ' m' e=>by
   have G:(spl cs off ps).length=cs.length:=by
    grind[Wn]
   refine⟨?_,f,_,k4,q2,setRow_heap _ _ _ _ _ _ q3,?_⟩
   ·grind[q0,Wn]
   ·have hg:=d.go e;have hq:=q4.go e;refine⟨by rw[G,<-q4.1];simp only[az,cb,cr];omega,λj v c n p=> ?_⟩;rw[Wl _ _ _ _ hl] at n;rw[Wn _ _ _ (by rw[A];exact I),Wl _ _ _ _ (by omega)] at p;rw[d.1] at n;split at n
    ·rename_i H;rw[cu H] at p;exact hg.2 _ v c n p
    ·rename_i H;rw[cG H] at p;exact hq.2 _ v c n p)
 refine⟨w.setRow f (vs.take off++(a.eval y).cells.toList++vs.drop (off+(a.eval y).cells.toList.length)).toArray,β',t',f,?_,Z,e,⟨Q,f3,R,by rw[O];exact ao _,λk _ hk=>W k hk⟩,k2,k4⟩
 grind[execOp,k5,Instr.storeAt,Instr.sureAddr,Sem.run_bind,Sem.run_pure,Result.andThen_ok]
def aZb (c:uS P TI=true)(r:bB Y.C E s a w β){o:Oper}{t:TypeId}{x y:Operand}{i:TInfo}{b off T rv cv:Nat}{cs ps:List (Lf U)}{d:List Nat}(ho:o.op= .store t x y)
  (h1:kG TI t=some i) (h2:eG s x= .l (.box b off)) (e:parts (xW s y)=some ps) (f:s.m.o[b]? =some ⟨.box T cs d,rv,cv⟩) (j:ps.length=i.k) (n:off+i.k<=cs.length) (p:Qv ps=true):
  SO P Y.C E a w o (.l .any) (trn s b (.box T (spl cs off ps) (spl d off (ps.map λ_=>Nat.succ s.m.k))) rv) false:=λK Q hK=>by
 obtain⟨w',β',t',v,q,u,_,_,_,_⟩:=aLb c r ho h1 h2 e f j n p;exact wpo (.inr ⟨q,rfl⟩) (hK _ _ β' u (λ_=>trivial) (λh=>by cases h))
def bTf {A M b D:List Nat}(h:(A++(M++D)).Nodup)(c:b.Nodup)(hd:∀x,x∈b->x∉A++(M++D)):(A++(b++D)).Nodup:=by
 grind
def bO0 {α:Type}(l:List α)(off n:Nat)(h:off+n<=l.length):l=l.take off++((l.drop off).take n++l.drop (off+n))/\(l.take off).length=off/\((l.drop off).take n).length=n:=by refine⟨?_,by simp;omega,by simp;omega⟩;rw[<-List.drop_drop,cW,cW]
def bHe {C:Cod U}{X:Nat->Prop}{d d':Bool}{t:Tr}{b τ q off:Nat}{L:List (U.El τ)}{z z':U.El τ}{xs vs:List Value}{ds:List (Lf U)}{D:List Nat}(hb:t.b=some b)
  (hown:w.ownsRow 0 τ (U.K τ) t.val L.length xs) (hc:OwL C w X d xs (L.map (C.cel τ)).flatten t.bs) (R:L[q]? =some z) (S:OwL C w X d' vs ds D) (hl:off+vs.length<=U.K τ)
  (T:C.cel τ z'=(C.cel τ z).take off++(ds++(C.cel τ z).drop (off+vs.length))):
  ∃(cur:Array Value) (A M Z:List Nat),w.heap[b]? =some (.cells cur τ (0,0))/\q*U.K τ+off+vs.length<=cur.toList.length/\t.bs=A++(M++Z)/\
   ∀(w':World) (X':Nat->Prop),w.heap.size<=w'.heap.size->(∀b,b<w.heap.size->X' b->X b)->(∀(p:Addr) (u:Value),¬X p.block->w.cell? p=some u->w'.cell? p=some u)->
    w'.heap[b]? =some (.cells (cur.toList.take (q*U.K τ+off)++vs++cur.toList.drop (q*U.K τ+off+vs.length)).toArray τ (0,0))->(∀k,k≠b->w'.heap[k]? =w.heap[k]?)->b∉t.bs->b∉D->
    ∃j,w'.ownsRow 0 τ (U.K τ) t.val L.length j/\OwL C w' X' (d&&d') j ((L.set q z').map (C.cel τ)).flatten (A++(D++Z)):=by
 obtain⟨l1,l2,x1,V,x2,y,Bz,B,g1,g2,W,g4,g5,g6,o1,H,o3⟩:=bJt hc R;obtain⟨s1,s2,s3⟩:=bO0 (C.cel τ z) off vs.length (by rw[C.hlen];exact hl);rw[s1] at H;obtain⟨i,zr,Bz1,Bzr,e1,e2,I,p2⟩:=OwL.split H;obtain⟨J,F,Bz2,Bz3,e3,e4,p3,p4⟩:=OwL.split p2;have G:i.length=off:=by rw[I.len,s2]
 have hz2:J.length=vs.length:=by rw[p3.len,s3]
 rcases eF hown with⟨b1,_⟩|⟨b',cur,b1,b2,b3,b4,b5,b6,b7⟩
 ·grind
 rw[hb] at b1;injection b1 with b1;subst b1;have hxs:cur.toList=(x1++(V++x2))++cur.toList.drop (L.length*U.K τ):=by rw[<-W,<-b7,cW]
 have O:cur.toList=(x1++i)++(J++(F++(x2++cur.toList.drop (L.length*U.K τ)))):=by
  grind
 have hpos:q*U.K τ+off=(x1++i).length:=by rw[az,g4,G]
 have l:cur.toList.take (q*U.K τ+off)++vs++cur.toList.drop (q*U.K τ+off+vs.length)=(x1++((i++(vs++F))++x2))++cur.toList.drop (L.length*U.K τ):=by
  rw[hpos]
  grind[List.append_assoc,List.drop_drop,List.drop_left,List.take_left]
 refine⟨cur,y++Bz1,Bz2,Bz3++B,b5,by grind,by simp[*],λw' X' n o r Q c5 c6 c7=> ?_⟩;rw[l] at Q;have hne:∀k,(k∈y\/k∈Bz1\/k∈Bz3\/k∈B)->w'.heap[k]? =w.heap[k]? :=λk hk=>(by grind);have v:(x1++((i++(vs++F))++x2)).length=L.length*U.K τ:=by
  have:=hown.1
  grind
 have x:L.set q z'=l1++z'::l2:=by simp[*]
 refine⟨x1++((i++(vs++F))++x2),⟨v, .inr ⟨b,t.c,_,?_,cm _,Q,b3,b4,?_,?_⟩⟩,?_⟩
 ·grind[Tr.val]
 ·grind
 ·simp only[List.toList_toArray];rw[<-v,gf]
 ·rw[x,cE,dn,bw,cM,T];have e:(d&&d')=true->d=true:=λh=>by grind
  have f:(d&&d')=true->d'=true:=(by simp);rw[show(y++Bz1)++(D++(Bz3++B))=y++((Bz1++(D++Bz3))++B) by simp];exact OwL.app ((o1.conv n o r (by grind[inl])).fl e)
   (OwL.app (OwL.app ((I.conv n o r (by grind[inl])).fl e)
    (OwL.app ((S.conv n o r (λk hk=>(by grind))).fl f) ((p4.conv n o r (by grind[inl])).fl e)))
    ((o3.conv n o r (λk hk=>(by grind))).fl e))
def bYr {C:Cod U}{X:Nat->Prop}{d:Bool}{B:List Nat}{τ τ' q j:Nat}{L:List (U.El τ)}{z:U.El τ}{l:List (U.El τ')}{xs:List Value}(hc:OwL C w X d xs (L.map (C.cel τ)).flatten B)(G:L[q]? =some z)(e:(C.cel τ z)[j]? =some (.sl τ' l)):
  ∃(v:Value) (A i Z:List Nat),xs[q*U.K τ+j]? =some v/\Ow C w X d v (.sl τ' l) i/\B=A++(i++Z)/\
   ∀(w':World) (X':Nat->Prop) (d2:Bool) (l':List (U.El τ')) (f:U.El τ) (B':List Nat),w.heap.size<=w'.heap.size->(∀b,b<w.heap.size->X' b->X b)->(∀(p:Addr) (u:Value),¬X p.block->w.cell? p=some u->w'.cell? p=some u)->
    (∀k,k∈A\/k∈Z->w'.heap[k]? =w.heap[k]?)->(d2=true->d=true)->Ow C w' X' d2 v (.sl τ' l') B'->C.cel τ f=(C.cel τ z).take j++(.sl τ' l'::(C.cel τ z).drop (j+1))->OwL C w' X' d2 xs ((L.set q f).map (C.cel τ)).flatten (A++(B'++Z)):=by
 obtain⟨l1,l2,x1,xz,x2,x,Bz,y,H,I,J,g4,g5,g6,O,D,Q⟩:=bJt hc G;have h:j<(C.cel τ z).length:=lt_of_some e;have s1:C.cel τ z=(C.cel τ z).take j++((.sl τ' l)::(C.cel τ z).drop (j+1)):=by rw[aa h] at e;injection e with e;rw[<-e,<-cF h,cW]
 rw[s1] at D;obtain⟨R,zr,Bz1,Bzr,S,e2,F,T⟩:=OwL.split D;have V:R.length=j:=by rw[F.len,cb];omega
 cases T with
 | @c v _ i Br vs _ hv hr=>
  refine⟨v,x++Bz1,i,Br++y,?_,hv,by simp[*],λw' X' d2 l' f B' n o r c4 t W c7=> ?_⟩
  ·simp[*]
  ·rw[show L.set q f=l1++f::l2 by rw[H,<-I];simp,cE,dn,bw,cM,c7,J,S];rw[show(x++Bz1)++(B'++(Br++y))=x++((Bz1++(B'++Br))++y) by simp];exact OwL.app ((O.conv n o r (by grind[inl])).fl t)
    (OwL.app (OwL.app ((F.conv n o r (by grind[inl])).fl t) (.c W ((hr.conv n o r (λk hk=>(by grind))).fl t)))
     ((Q.conv n o r (λk hk=>(by grind))).fl t))
def bMc {ids:List Nat}{b:Nat}{t t2:Tr}(r:bB Y.C E s a w β)(k2:β[b]? =some t)(l:(b::ids).Nodup){A M Z:List Nat}(h1:t.all=A++(M++Z))(h2:t2.all=A++(kU β ids++Z)):
  t2.all.Nodup/\(∀k∈t2.all,k<w.heap.size/\(w.heap.size<=k\/k∈t.all\/∃j∈ids,∃u,β[j]? =some u/\k∈u.all))/\∀k,k∈kU β ids->k∉t.all:=by
 have d:∀k,k∈kU β ids->k∉t.all:=λk hk f=>by
  obtain⟨j,i,u,e,c⟩:=Eg hk;exact r.hp.dist j b u t k (by grind[List.nodup_cons]) e k2 c f
 refine⟨?_,λk hk=> ?_,d⟩
 ·rw[h2];exact bTf (h1▸r.hp.nd b t k2) (bJz r.hp (co.1 l).2) (by simp_all)
 ·have:k∈t.all\/k∈kU β ids:=by
   grind
  rcases this with h|h
  ·exact⟨(r.hp.new b t k k2 h).2, .inr (.inl h)⟩
  ·obtain⟨j,i,u,e,c⟩:=Eg h;exact⟨(r.hp.new j u k e c).2, .inr (.inr ⟨j,i,u,e,c⟩)⟩
def aVa (H:uS P TI=true)(hY:LayOk Y)(r:bB Y.C E s a w β){o:Oper}{t:TypeId}{x y:Operand}{i:TInfo}{b c τ off rv cv:Nat}{q:Int}{z z':U.El τ}{d d':Bool}{L:List (U.El τ)}{ps ds:List (Lf U)}{ids:List Nat}(ho:o.op= .store t x y)
  (h1:kG TI t=some i) (h2:eG s x= .l (.oel b c τ q z off)) (h3:parts (xW s y)=some ps) (I:s.m.o[b]? =some ⟨.tree τ d L,rv,cv⟩) (O:cv=c) (h5:ps.length=i.k) (h6:off+i.k<=U.K τ) (h7:Qv ps=true)
  (h8:aU5 s.m ((((Y.kd τ).drop off).take i.k)) ps=some (ds,ids,d')) (hJ:(b::ids).Nodup) (h9:Y.C.bld τ (spl (Y.C.cel τ z) off ds)=some z'):
  SO P Y.C E a w o (.l .any) ⟨s.t,⟨kil (Nat.succ s.m.k) ids (upd s.m.o b ⟨.tree τ (d&&d') (L.set q.toNat z'),rv,Nat.succ s.m.k⟩),Nat.succ s.m.k,s.m.ns⟩,s.fr⟩ false:=λK Q hK=>by
 have hti:=bM H h1;obtain⟨p,u⟩:=Fh (jR r (x:=y)) h3 h7;obtain⟨_,e',t',k1,k2,k3⟩:=mX r h2;rw[I] at k1;injection k1 with k1;subst k1;obtain⟨d0,L0,B,R,a2,a3,a4,a5⟩:=k3 O;injection R with _ R S;subst R;subst S;obtain⟨V,xs,c1,c2⟩:=r.hp.ok b t' _ k2 I;have hO:=Ra r.hp h8 p (λkd hk τ' e=>hY.pos τ τ' (by grind));have f:(a.eval y).cells.toList.length=i.k:=by rw[p.1,h5]
 have D:ds.length=i.k:=by rw[<-hO.len,f]
 obtain⟨cur,A,M,Z,f1,f2,f3,f4⟩:=bHe (d':=d') a4 c1 c2 a3 hO (by rw[f];exact h6) (z':=z') (by rw[<-Y.C.hmk τ _ z' h9,Wn _ _ _ (by rw[D,Y.C.hlen];exact h6),D,f,cw]);have F:=aPz (P:=P) (T:=τ) (t:=t) (b:=B) (off:=q.toNat*U.K τ+off) (cur:=cur.toList) (vs:=(a.eval y).cells.toList) (v:=a.eval y) (w:=w) (by simp) (by grind[bJ0]) (by assumption) f2 u;generalize hN:(cur.toList.take (q.toNat*U.K τ+off)++(a.eval y).cells.toList++cur.toList.drop (q.toNat*U.K τ+off+(a.eval y).cells.toList.length)).toArray=N at F f4;obtain⟨n1,n2,n3,n4,n5⟩:=Wj w B N;have G:t'.all=(B::A)++(M++Z):=by grind[Tr.all]
 let t2:Tr:=⟨t'.b,t'.n,t'.c,A++(kU β ids++Z)⟩;obtain⟨m1,m2,m3⟩:=bMc (t2:=t2) r k2 hJ G (by grind[Tr.all]);have hnd:=r.hp.nd b t' k2;have W:B∉t'.bs:=(by simp_all);obtain⟨β',r1,_,_⟩:=r.turn (J:=ids) (ob:= .tree τ (d&&d') (L.set q.toNat z')) (rv:=rv) (t':=t2) I k2 hJ (by omega) n2 n3 n4
  (by grind[n5,Tr.root]) (by simp_all) m1 (.inl ⟨rfl,rfl⟩) (λh=>by cases h) (λβ' m' j=>by
   obtain⟨xs',p1,p2⟩:=f4 _ (E.X β') j.sz j.hX j.hc (setRow_heap _ _ _ _ _ _ f1) n5 W (by grind[Tr.root]);exact⟨V,xs',by rw[ay];exact p1,p2⟩)
 refine wpo (w':=w.setRow B N) (v:=undef) (.inr ⟨?_,rfl⟩) (hK _ _ β' r1 (λ_=>trivial) (λh=>by cases h))
 grind[execOp,Instr.storeAt,Instr.sureAddr,Sem.run_bind,Sem.run_pure,Result.andThen_ok]
def bEn (W:uS P TI=true)(hY:LayOk Y)(r:bB Y.C E s a w β){o:Oper}{t:TypeId}{x y:Operand}{i:TInfo}{b c τ τ' j off rv cv:Nat}{q q':Int}{z F:U.El τ}{z' G:U.El τ'}{l:List (U.El τ')}{d d':Bool}{L:List (U.El τ)}{ps ds:List (Lf U)}{ids:List Nat}(ho:o.op= .store t x y)
  (h1:kG TI t=some i) (h2:eG s x= .l (.oin b c τ q z j τ' l q' z' off)) (h3:parts (xW s y)=some ps) (h4:s.m.o[b]? =some ⟨.tree τ d L,rv,cv⟩) (hcv:cv=c) (h5:ps.length=i.k) (h6:off+i.k<=U.K τ') (h7:Qv ps=true)
  (h8:aU5 s.m ((((Y.kd τ').drop off).take i.k)) ps=some (ds,ids,d')) (hJ:(b::ids).Nodup) (h9:Y.C.bld τ' (spl (Y.C.cel τ' z') off ds)=some G) (h10:Y.C.bld τ (upd (Y.C.cel τ z) j (.sl τ' (l.set q'.toNat G)))=some F):
  SO P Y.C E a w o (.l .any) ⟨s.t,⟨kil (Nat.succ s.m.k) ids (upd s.m.o b ⟨.tree τ (d&&d') (L.set q.toNat F),rv,Nat.succ s.m.k⟩),Nat.succ s.m.k,s.m.ns⟩,s.fr⟩ false:=λK Q hK=>by
 have hti:=bM W h1;obtain⟨H,I⟩:=Fh (jR r (x:=y)) h3 h7;obtain⟨_,e',t',k1,k2,k3⟩:=mX r h2;rw[h4] at k1;injection k1 with k1;subst k1;obtain⟨L0,xs,v0,p,n',c',a1,a2,a3,a4,a5,a6,a7,a8,a9,a10⟩:=k3 hcv;injection a1 with _ a1 a1';subst a1;subst a1';obtain⟨hk0,xs1,c1,c2⟩:=r.hp.ok b t' _ k2 h4;obtain rfl:=bLz a5 c1;have hO:=Ra r.hp h8 H (λkd hk τ2 e=>hY.pos τ' τ2 (by grind));have B:(a.eval y).cells.toList.length=i.k:=by rw[H.1,h5]
 have O:ds.length=i.k:=by rw[<-hO.len,B]
 obtain⟨v1,A,B0,Z,d1,d2,d3,d4⟩:=bYr c2 a3 a4;rw[a6] at d1;injection d1 with d1;subst d1;cases d2 with
 |fz hd=>cases hd
 |su hd=>cases hd
 |sl u hk hown hc=>
  have hub:=bZ9 a7;obtain⟨cur,A1,M,Z1,f1,f2,f3,f4⟩:=bHe (d':=d') hub hown hc a9 hO (by rw[B];exact h6) (z':=G) (by rw[<-Y.C.hmk τ' _ G h9,Wn _ _ _ (by rw[O,Y.C.hlen];exact h6),O,B,cw]);have R:=aPz (P:=P) (T:=τ') (t:=t) (b:=p) (off:=q'.toNat*U.K τ'+off) (cur:=cur.toList) (vs:=(a.eval y).cells.toList) (v:=a.eval y) (w:=w) (by simp) (by grind[bJ0]) (by assumption) f2 I;generalize hN:(cur.toList.take (q'.toNat*U.K τ'+off)++(a.eval y).cells.toList++cur.toList.drop (q'.toNat*U.K τ'+off+(a.eval y).cells.toList.length)).toArray=N at R f4;obtain⟨n1,n2,n3,n4,n5⟩:=Wj w p N;let u2:Tr:=⟨u.b,u.n,u.c,A1++(kU β ids++Z1)⟩;let t2:Tr:=⟨t'.b,t'.n,t'.c,A++(u2.all++Z)⟩;have S:t'.all=(t'.b.toList++(A++(p::A1)))++(M++(Z1++Z)):=by grind[Tr.all,d3]
  obtain⟨m1,m2,m3⟩:=bMc (t2:=t2) r k2 hJ S (by grind[u2,Tr.all]);have hin:p∈t'.all:=by simp[*]
  have V:=r.hp.nd b t' k2;have D:t'.all=(t'.b.toList++A)++(p::(u.bs++Z)):=by simp[*]
  rw[D,eg,co] at V;have hA:∀k,k∈t'.b.toList\/k∈A\/k∈Z->k≠p:=λk hk e=>by
   grind
  obtain⟨β',r1,_,_⟩:=r.turn (J:=ids) (ob:= .tree τ (true&&d') (L.set q.toNat F)) (rv:=rv) (t':=t2) h4 k2 hJ (by omega) n2 n3 n4
   (by grind[n5]) (by simp at*;omega) m1 (.inl ⟨rfl,rfl⟩) (λh=>by cases h) (λβ' m' f=>by
    obtain⟨ys,p1,p2⟩:=f4 _ (E.X β') f.sz f.hX f.hc (setRow_heap _ _ _ _ _ _ f1) n5 (λh=>V.2.1.1 (by simp[h])) (λh=>m3 _ h hin);refine⟨hk0,xs,by rw[ay];exact oH c1 (λk hk=>n5 k (hA k (.inl (by rw[show t'.b=some k from hk];simp)))),?_⟩;refine d4 _ (E.X β') (true&&d') (l.set q'.toNat G) F u2.all f.sz f.hX f.hc (by grind[n5]) (λ_=>rfl) (.sl u2 hk (by rw[ay];exact p1) p2) ?_;rw[<-Y.C.hmk τ _ F h10,cK,List.set_eq_take_append_cons_drop,cu (lt_of_some a4)])
  refine wpo (w':=w.setRow p N) (v:=undef) (.inr ⟨?_,rfl⟩) (hK _ _ β' r1 (λ_=>trivial) (λh=>by cases h))
  grind[execOp,Instr.storeAt,Instr.sureAddr,Sem.run_bind,Sem.run_pure,Result.andThen_ok]
end
end Go.EV
namespace Go.EV
open Go.RowKit Go.VK
variable {U:Uni} {Y:Lay U} {TI:List (Nat×TInfo)} {P:Program} {g:GI} {E:Env U g}
section
variable {s:St U} {a:Act} {w:World} {β:List Tr} {α:Type}
def aZc {t:TypeId}{e k bts n:Nat}{ps:Array (Nat×Operand)}{vs:List Value}(ht:slB P t e k bts=true)(hn:vs.length=n)(r:n*k<=16777216)(y:(ps.toList.map λ(i,x)=>(i,a.eval x))=(vs.zipIdx 0|>.map λ(v,j)=>(j,v)))(hsz:∀v∈vs,v.cells.size=k){o:Oper}(ho:o.op= .buildSlice t n ps):
  ∃cells:Array Value,(execOp a.eval o).run P w= .ok (.value (.slice (some ⟨w.heap.size,0,none⟩) n n)) (w.alloc (.cells cells e))/\cells.toList=(vs.map λv=>v.cells.toList).flatten:=by
 obtain⟨f,i,z,hi,I,A,B,D,l⟩:=fH ht;have hz0:∃zc:Array Value,(if n*k=0 then(pure #[]:Sem (Array Value)) else do pure (<-zeroValue e).cells).run P w= .ok zc w:=by
  by_cases h:n*k=0
  all_goals simp_all[zeroValue,typeInfo]
 obtain⟨zc,b⟩:=hz0;obtain⟨res,J,L,O,F⟩:=aP0 k vs 0 ((Array.range (n*k)).map (zc[·%zc.size]!)) hsz (by simp[hn]);have G:res.size=n*k:=by simp[*]
 refine⟨res,?_,?_⟩
 ·have hp:((ps.map λ(i,x)=>(i,a.eval x)):Array (Nat×Value)).toList=((vs.zipIdx 0).map λ(v,j)=>(j,v)):=by simp[*]
  simp only[execOp,ho,Instr.buildSlice,Sem.run_bind,run_underlying f,Result.andThen_ok];have hs:(sizeOf e).run P w= .ok k w:=by simp_all[sizeOf,typeInfo]
  simp only[hs,Result.andThen_ok];rw[cG (by omega)];by_cases h:n*k=0
  ·have c:zc= #[]:=by simp_all
   simp_all[newRow,Sem.run_bind,run_newObj,Sem.run_pure,Result.andThen_ok,gi]
  ·simp only[h,if_false,Sem.run_bind,Sem.run_pure] at b ⊢;have c:((zeroValue e).run P w).andThen (λa w'=>Result.ok a.cells w')= .ok zc w:=b;simp_all[Result.andThen_ok,newRow,Sem.run_bind,run_newObj,Sem.run_pure,Result.ok.injEq,and_true,zeroValue,typeInfo]
 ·have hlen:(vs.map λv=>v.cells.toList).flatten.length=n*k:=by
   have:∀(vs:List Value),(∀v∈vs,v.cells.size=k)->(vs.map λv=>v.cells.toList).flatten.length=vs.length*k:=by intro vs;induction vs<;>grind
   rw[this vs hsz,hn]
  apply List.ext_getElem?;intro q;by_cases hq:q<n*k
  ·obtain⟨q0,q1,d,rfl⟩:∃q0 q1,q1<k/\q=q0*k+q1:=⟨q/k,q%k,Nat.mod_lt _ l,by rw[fa];exact(fX q _).symm⟩;have p:q0<n:=im (Nat.lt_of_le_of_lt (dc _ _) hq);have hv:vs[q0]? =some (vs[q0]'(by omega)):=aa _;have H:=F q0 q1 _ hv d;rw[cl] at H;have key:∀(vs:List Value) (q0:Nat) (v:Value),(∀v∈vs,v.cells.size=k)->vs[q0]? =some v->(vs.map λv=>v.cells.toList).flatten[q0*k+q1]? =v.cells.toList[q1]? :=by
    intro vs;induction vs with
    |nil=>simp
    |cons u vs Q=>
     intro q0 v h hv;cases q0 with
     |zero=>simp at hv;subst hv;simp only[bw,cM,Nat.zero_mul,cl];rw[aq (by simp[h u (by simp)];exact d)]
     |succ q0=>
      simp only[bw,cM];have f:u.cells.toList.length=k:=by simp[*]
      rw[show(q0+1)*k+q1=u.cells.toList.length+(q0*k+q1) by rw[f,dp];omega,ax (dc _ _),cC];simp_all
   rw[key vs q0 _ hsz hv];simp_all
  simp[*]
def bTg (hY:LayOk Y)(r:bB Y.C E s a w β){e:Nat}{x:Operand}{z:U.El e}{ids:List Nat}{d:Bool}(h:bYi Y s e (eG s x)=some (z,ids,d)):
  OwL Y.C w (E.X β) d (a.eval x).cells.toList (Y.C.cel e z) (kU β ids):=by
 unfold bYi at h;cases hp:parts (eG s x) with
 |none=>simp_all
 |some cs=>
  cases b:aU5 s.m (Y.kd e) cs with
  |none=>simp_all
  |some q=>
   obtain⟨ds,ids',d'⟩:=q;cases hb:Y.C.bld e ds with
   |none=>simp_all
   |some z'=>
    simp only[hp,b,hb,aj,cD] at h;obtain⟨rfl,rfl,rfl⟩:=h;rw[<-Y.C.hmk e ds z' hb];have hm:=Qx r (x:=x);cases ho:eG s x with
    |l y=>
     rw[ho] at hm hp;simp only[parts,aj] at hp;subst hp;cases hk:Y.kd e with
     |nil=>rw[hk] at b;cases b
     |cons kd ks=>
      rw[hk] at b;simp only[aU5] at b;cases h1:bLu s.m kd y with
      |none=>simp_all
      |some q1=>
       obtain⟨y',v,d1⟩:=q1;have ho:=bHd r.hp h1 hm (λτ e'=>hY.pos e τ (by simp[*]));have:(a.eval x).cells= #[a.eval x]:=aCz ho.one;rw[this];refine Ra r.hp (ks:=kd::ks) (xs:=[y]) (by assumption) ⟨rfl,λi u c f n=> ?_⟩ (λj k τ e'=>hY.pos e τ (by simp_all));cases i with
       |zero=>simp at f n;subst f;subst n;exact hm
       |succ i=>simp at f
    |a o=>rw[ho] at hm hp;simp only[parts,aj] at hp;subst hp;obtain⟨vs,hv,p⟩:=hm;rw[hv];exact Ra r.hp b p (λj k τ e'=>hY.pos e τ (by simp_all))
    |t xs=>rw[ho] at hp;cases hp
def aHw (hY:LayOk Y)(r:bB Y.C E s a w β){e:Nat}:∀{ps:List (Nat×Operand)} {n:Nat} {l:List (U.El e)} {ids:List Nat} {d:Bool},aGd Y s e n ps=some (l,ids,d)->
  ∃vs:List Value,(ps.map λ(i,x)=>(i,a.eval x))=(vs.zipIdx n|>.map λ(v,j)=>(j,v))/\vs.length=ps.length/\l.length=ps.length/\(∀v∈vs,v.cells.size=U.K e)/\OwL Y.C w (E.X β) d (vs.map λv=>v.cells.toList).flatten (l.map (Y.C.cel e)).flatten (kU β ids)
 |[],n,l,ids,d,h=>by
  simp only[aGd,aj,cD] at h;obtain⟨rfl,rfl,rfl⟩:=h;exact⟨[],rfl,rfl,rfl,by simp, .n⟩
 |(i,x)::ps,n,l,ids,d,h=>by
  simp only[aGd] at h;cases hb:Nat.beq i n with
  |false=>simp[hb] at h
  |true=>
   have b:i=n:=ai hb;subst b;simp only[hb,ae] at h;cases h1:bYi Y s e (eG s x) with
   |none=>simp[h1] at h
   |some q=>
    obtain⟨z,f,d1⟩:=q;cases h2:aGd Y s e (Nat.succ i) ps with
    |none=>simp[h1,h2] at h
    |some q2=>
     obtain⟨k,o,d2⟩:=q2;simp only[h1,h2,aj,cD] at h;obtain⟨rfl,rfl,rfl⟩:=h;obtain⟨vs,k1,k2,k3,k4,k5⟩:=aHw hY r h2;have c:=bTg hY r h1;refine⟨a.eval x::vs,by simp[fy,k1],by simp[k2],by simp[k3],λv hv=> ?_,?_⟩
     ·rcases bl.1 hv with rfl|hv
      ·have:=c.len;rw[Y.C.hlen] at this;simpa using this
      ·exact k4 v hv
     ·rw[aLa];simp only[bw,cM];exact OwL.app (c.fl (by simp;exact λh _=>h)) (k5.fl (by simp))
def bMd (A:uS P TI=true)(hY:LayOk Y)(r:bB Y.C E s a w β){o:Oper}{t:TypeId}{n e ek eb k:Nat}{V:List Kz}{ps:Array (Nat×Operand)}{l:List (U.El e)}{ids:List Nat}{d:Bool}(ho:o.op= .buildSlice t n ps)
  (h1:kG TI t=some ⟨.sl e ek eb,k,V⟩) (h2:ps.toList.length=n) (W:n*ek<=16777216) (L:K4 (U:=U) e ek e=true) (Z:aGd Y s e 0 ps.toList=some (l,ids,d)) (B:(s.m.o.length::ids).Nodup):
  SO P Y.C E a w o (.l (.own (len s.m.o) s.m.k)) ⟨s.t,⟨kil (Nat.succ s.m.k) ids (upd (s.m.o++[⟨.dead,s.m.k,s.m.k⟩]) (len s.m.o) ⟨.tree e d l,s.m.k,Nat.succ s.m.k⟩),Nat.succ s.m.k,s.m.ns⟩,s.fr⟩ true:=λK Q hK=>by
 have q:=(Kt (bM A h1) rfl).1;obtain⟨_,_,_,_,_,_,_,_,y⟩:=fH q;simp only[K4,ab] at L;have z:U.K e=ek:=ai L.2;obtain⟨vs,k1,k2,k3,k4,k5⟩:=aHw hY r Z;rw[z] at k4;obtain⟨cells,q1,q2⟩:=aZc (w:=w) q (k2.trans h2) W k1 k4 ho;have he:Ext w (w.alloc (.cells cells e)):=Ext.alloc _ _;have D:n<=maxLen:=by
  have:n*1<=n*ek:=fj _ y
  grind[maxLen]
 have r1:=r.add he [((⟨.dead,s.m.k,s.m.k⟩:EO U),(⟨some w.heap.size,n,n,[]⟩:Tr))] (by simp) (by simp[Tr.all]) (by simp[Tr.all]) (λ_ x i=>by simp at i;subst i;trivial);have F:(s.m.o++[(⟨.dead,s.m.k,s.m.k⟩:EO U)])[s.m.o.length]? =some ⟨.dead,s.m.k,s.m.k⟩:=by simp
 have G:(β++[(⟨some w.heap.size,n,n,[]⟩:Tr)])[s.m.o.length]? =some ⟨some w.heap.size,n,n,[]⟩:=by rw[<-r.hp.len];simp
 have O:∀j∈ids,∀u,(β++[(⟨some w.heap.size,n,n,[]⟩:Tr)])[j]? =some u->β[j]? =some u:=λj R u f=>by
  have hne:j≠s.m.o.length:=(by grind[List.nodup_cons]);by_cases hl:j<β.length
  ·rwa [aq hl] at f
  ·have:=lt_of_some f;simp at this;rw[r.hp.len] at this hl;omega
 have hbl:kU (β++[(⟨some w.heap.size,n,n,[]⟩:Tr)]) ids=kU β ids:=by
  grind[List.nodup_cons,List.getElem?_eq_none,List.getElem?_append_left,List.map_congr_left,kU]
 obtain⟨β',S,T,r4⟩:=r1.turn (w':=w.alloc (.cells cells e)) (J:=ids) (ob:= .tree e d l) (rv:=s.m.k) (t':=⟨some w.heap.size,n,n,kU β ids⟩) F G B (ao _) rfl rfl rfl (λ_ _ _=>rfl)
  (λb hb=>by
   simp only[Tr.all,cX,cH,bp,bl] at hb;rcases hb with rfl|hb
   ·simp[inl,Tr.all]
   ·obtain⟨j,R,u,f,c⟩:=Eg hb;have:=(r.hp.new j u b f c).2;refine⟨by simp;omega, .inr (.inr ⟨j,R,u,?_,c⟩)⟩
    grind)
  (by
   simp only[Tr.all,cX,cH,bp];rw[co];refine⟨λhb=> ?_,bJz r.hp (co.1 B).2⟩;obtain⟨j,_,u,f,c⟩:=Eg hb;have:=(r.hp.new j u _ f c).2;omega)
  (.inl ⟨rfl,rfl⟩) (λh=>by cases h) (λβ' m' H=>by
   refine⟨by rw[z];exact y,cells.toList,?_,?_⟩
   ·rw[k3,h2];exact World.ownsRow_lit w cells n (cm _) D (by
     have hc:cells.size=cells.toList.length:=by simp
     rw[hc,q2,k5.len,K3 (Y.C.hlen e),k3,h2])
   ·rw[q2];have I:∀b,b<w.heap.size->E.X (β++[(⟨some w.heap.size,n,n,[]⟩:Tr)]) b->E.X β b:=λb hb i=>by
     rcases i with h|h|⟨u,f,c⟩
     ·exact .inl h
     ·exact .inr (.inl h)
     ·rcases ce.1 f with f|f
      ·exact .inr (.inr ⟨u,f,c⟩)
      grind[Tr.all]
    exact k5.conv he.size (λb hb i=>I b hb (H.hX b (ca hb he.size) i)) (λp u _ hc=>he.cell hc) (λb hb=>by
     obtain⟨j,_,u,f,c⟩:=Eg hb;exact he.block b (r.hp.new j u b f c).2))
 rw[<-bL] at S T;refine wpo (w':=w.alloc (.cells cells e)) (v:= .slice (some ⟨w.heap.size,0,none⟩) n n) (.inl q1) (hK _ _ β' S (λ_=> ?_) (λ_=>he));refine⟨⟨dy _,rfl⟩,⟨.tree e d l,s.m.k,Nat.succ s.m.k⟩,_,?_,T,λ_=>rfl⟩;rw[Ef (by rw[bL];exact(co.1 B).1),cK,bm (by rw[bL];simp)]
end
end Go.EV
namespace Go.EV
open Go.RowKit Go.VK
variable {U:Uni} {Y:Lay U} {TI:List (Nat×TInfo)} {P:Program} {g:GI} {E:Env U g}
section
variable {s:St U} {a:Act} {w:World} {β:List Tr} {α:Type}
def bQ2 {α β:Type}{f:α->List β}{k:Nat}(hk:∀x,(f x).length=k)(h0:0<k):∀{l:List α} {q:Nat} {c:β},(l.map f).flatten[q]? =some c->∃x,l[q/k]? =some x/\(f x)[q%k]? =some c
 |[],q,c,h=>by simp at h
 |x::l,q,c,h=>by
  simp only[bw,cM] at h;by_cases hq:q<k
  ·rw[aq (by rw[hk];exact hq)] at h;exact⟨x,by rw[Nat.div_eq_of_lt hq];rfl,by rw[gE hq];exact h⟩
  ·rw[ax (by rw[hk];omega),hk] at h;obtain⟨y,h1,h2⟩:=bQ2 hk h0 h;have e:q=q-k+k:=by omega
   refine⟨y,?_,?_⟩
   ·rw[e,Nat.add_div_right _ h0];simpa using h1
   ·rw[e,Nat.add_mod_right];exact h2
def OwL.aCT {C:Cod U}{X:Nat->Prop}{d:Bool}:∀{vs:List Value} {xs:List (Lf U)},vs.length=xs.length->(∀(i:Nat) (v:Value) (x:Lf U),vs[i]? =some v->xs[i]? =some x->Ow C w X d v x [])->OwL C w X d vs xs []
 |[],[],_,_=> .n
 |[],_::_,h,_=>by simp at h
 |_::_,[],h,_=>by simp at h
 |v::vs,x::xs,h,h1=>by
  have:=OwL.c (h1 0 v x rfl rfl) (OwL.aCT (by simpa using h) λi v x a b=>h1 (i+1) v x (by simpa using a) (by simpa using b));simpa using this
theorem bHf:∀{l:List Kd},aYt l=false↔∀τ,Kd.sl τ∉l
 |[]=>by simp[aYt]
 |x::l=>by
  have e:aYt (x::l)=cond x.aDM true (aYt l):=rfl;rw[e];cases x with
  |sl τ=>exact⟨λh=>(by cases h),λh=>absurd dT (h τ)⟩
  |_=>simp only[Kd.aDM,ac,bl,reduceCtorEq,false_or];exact bHf
theorem bHg (hY:LayOk Y){τ:Nat}(h:aYu Y τ=true){z:U.El τ}{c:Lf U}(hc:c∈Y.C.cel τ z):∀τ' l,c≠ .sl τ' l:=λτ' l e=>by
 subst e;have b:aYt (Y.kd τ)=false:=by
  grind[aYt,aYu]
 have hk:=hY.kds τ z;have:some (Kd.sl τ')∈(Y.kd τ).map some:=by rw[<-hk];exact cz.2 ⟨_,hc,rfl⟩
 grind[bHf]
def bO1 (Y:Lay U){τ:Nat}{z:U.El τ}:pI (U.enc τ z)=true:=by
 rw[<-Y.C.hcel];have:∀(cs:List (Lf U)),(∀c∈cs,c.aBB=true)->pI (cs.map Lf.toV)=true:=by intro cs;induction cs<;>grind[pI,Lf.aCB]
 exact this _ (Y.C.hdat τ z)
def bHh (hY:LayOk Y){e:Nat}(hk:0<U.K e){X Z:Nat->Prop}{d:Bool}{v:Value}{l:List (U.El e)}(h:Rd w Z [] v (.slice (U.K e) (l.map (U.enc e))))(hd:aYu Y e=true\/(d=false/\∀b,X b->Z b)):
  ∃(A:Option Addr) (c:Nat) (news:List Value),v= .slice A l.length c/\news.length=l.length*U.K e/\(l.length=0\/∃p,A=some p/\∀j u,news[j]? =some u->w.cell? (p.add j)=some u)/\OwL Y.C w X d news (l.map (Y.C.cel e)).flatten []:=by
 obtain⟨A,c,xs,h1,h2,o,F,G,r⟩:=bG1 h (λe' he=>by
  obtain⟨z,_,rfl⟩:=cz.1 he;exact bO1 Y)
 rw[bn] at h1 h2;refine⟨A,c,xs,h1,h2,o.imp (λhn=>by simpa using congrArg List.length hn) id,OwL.aCT (by rw[h2,K3 (Y.C.hlen e)]) λq u x t y=> ?_⟩;obtain⟨z,q1,q2⟩:=bQ2 (Y.C.hlen e) hk y;have B:(l.map (U.enc e))[q/U.K e]? =some (U.enc e z):=by simp[*]
 have hc:(U.enc e z)[q%U.K e]? =some x.toV:=by rw[<-Y.C.hcel,bq,q2];rfl
 obtain⟨u',k1,k2⟩:=r _ _ _ _ B hc;have hq:q/U.K e*U.K e+q%U.K e=q:=by simp[fX,fa]
 rw[hq,t] at k1;injection k1 with k1;subst k1;have f:=ba q2;have hdat:=Y.C.hdat e z x f;cases x with
 |int k n=>obtain⟨rfl,i,D⟩:=k2.aAR;exact .int i D
 |bool b=>obtain rfl:=k2.aAU;exact .bool
 |str b=>obtain⟨rfl,i⟩:=k2.aAT;exact .str i
 |sl τ' l'=>
  rcases hd with hd|⟨hd,hX⟩
  ·grind[absurd,bHg]
  ·exact .fz hd (Rd.conv k2 (ao _) (λb _ hb=>hX b hb) (λ_ _ _ h=>h) (λ_ _ h=>h))
 |_=>cases hdat
def bTh {i j r:Nat}(h:aT9 i (.own j r:Lf U)=true):j≠i:=(by grind[aT9,Nat.beq,Nat.beq_refl])
def bVu (r:bB Y.C E s a w β){e i:Nat}(c:0<U.K e){x:Operand}{f:Lf U}{d:Bool}{l:List (U.El e)}{s1:St U}(b:eG s x= .l f)(h:apD s e f=some (i,d,l,s1)):
  ∃β1 t rv cv,bB Y.C E s1 a w β1/\s1.t=s.t/\s1.m.ns=s.m.ns/\s1.fr=s.fr/\β1[i]? =some t/\s1.m.o[i]? =some ⟨.tree e d l,rv,cv⟩/\a.eval x=t.val/\rv<=s1.m.k:=by
 have hm:=mX r b;cases f with
 |nil=>
  simp only[apD,aj,cD] at h;obtain⟨rfl,rfl,rfl,rfl⟩:=h;have p:=r.add (Ext.refl w) [((⟨.tree e true [],s.m.k,s.m.k⟩:EO U),aP8)] (by simp) (by simp[pW]) (by simp[pW]) (λu x b=>by
   simp at b;subst b;exact⟨c,[],World.ownsRow_nil w 0 e (U.K e), .n⟩)
  refine⟨_,aP8,s.m.k,s.m.k,p,rfl,rfl,rfl,?_,?_,?_,ao _⟩
  ·rw[bL,<-r.hp.len];simp
  ·simp[psh,bL]
  assumption
 |own j q=>
  simp only[apD,aR] at h;obtain⟨_,e',t,k1,k2,k3⟩:=hm
  grind[d0,Nat.beq,slq,Option.some.injEq,Prod.mk.injEq,nM,k2,k1,k3,Nat.eq_of_beq_eq_true]
 |_=>cases h
def bMe (hY:LayOk Y)(r:bB Y.C E s a w β){e i:Nat}(k:0<U.K e){py:Lf U}{v:Value}{l:List (U.El e)}{ids:List Nat}{d:Bool}(hm:py.mean Y.C w (E.X β) β s.m v)(h:apS Y s.m e i py=some (l,ids,d)):
  (i::ids).Nodup/\∃(A:Option Addr) (c:Nat) (news:List Value),v= .slice A l.length c/\news.length=l.length*U.K e/\(l.length=0\/∃p,A=some p/\∀j u,news[j]? =some u->w.cell? (p.add j)=some u)/\∃B,OwL Y.C w (E.X β) d news (l.map (Y.C.cel e)).flatten B/\(∀b∈B,b∈kU β ids)/\B.Nodup:=by
 by_cases hn:py= .nil
 ·subst hn;simp only[apS,aj,cD] at h;obtain⟨rfl,rfl,rfl⟩:=h;obtain rfl:=hm;exact⟨by simp,none,0,[],rfl,by simp, .inl rfl,[], .n,by simp,io⟩
 ·have f:(bif aYu Y e then(match uQ s.m py with
   |some (.sl τ l)=>match slq e τ l with
    |some l=>bif aT9 i py then some (l,[],true) else none
    |none=>none
   |_=>none) else(match py with
   | .sl τ l=>match slq e τ l with
    |some l=>some (l,[],false)
    |none=>none
   | .own j r=>match nth s.m.o j with
    |some ⟨.tree τ d l,rv,_⟩=>bif Nat.beq rv r&&aT9 i py then(match slq e τ l with
     |some l=>some (l,[j],d)
     |none=>none) else none
    |_=>none
   |_=>none))=some (l,ids,d):=by
   cases py<;>first|exact absurd rfl hn|exact h
  cases D:aYu Y e with
  |true=>
   rw[D] at f;simp only[ae] at f;split at f
   ·rename_i τ x hr;cases hs:slq e τ x with
    |none=>simp_all
    |some l1=>
     simp only[hs] at f;cases F:aT9 i py with
     |false=>simp_all
     |true=>
      simp only[F,ae,aj,cD] at f;obtain⟨rfl,rfl,rfl⟩:=f;obtain⟨rfl,y⟩:=nM hs;obtain rfl:=dv y;have hrd:=(Qw r.hp hm hr (Z:=λ_=>False) (λ_ h=>h.elim) (by simp)).2;obtain⟨A,c,news,q1,q2,q3,q4⟩:=bHh (X:=E.X β) (d:=true) hY k hrd (.inl D)
      grind
   ·cases f
  |false=>
   rw[D] at f;simp only[ac] at f;cases py with
   |nil=>simp_all
   |sl τ x=>
    simp only at f;cases hs:slq e τ x with
    |none=>simp_all
    |some l1=>
     simp only[hs,aj,cD] at f;obtain⟨rfl,rfl,rfl⟩:=f;obtain⟨rfl,y⟩:=nM hs;obtain rfl:=dv y;obtain⟨A,c,news,q1,q2,q3,q4⟩:=bHh (X:=E.X β) (d:=false) hY k (Z:=E.X β) hm (by simp)
     grind
   |own j q=>
    simp only at f;split at f
    ·rename_i τ d0 x rv cv ho;rw[aR] at ho;cases hb:(Nat.beq rv q&&aT9 i (.own j q:Lf U)) with
     |false=>simp_all
     |true=>
      rw[hb] at f;simp only[ae] at f;simp only[ab] at hb;cases hs:slq e τ x with
      |none=>simp_all
      |some l1=>
       simp only[hs,aj,cD] at f;obtain⟨rfl,rfl,rfl⟩:=f;obtain⟨rfl,y⟩:=nM hs;obtain rfl:=dv y;obtain⟨_,e',t,k1,k2,k3⟩:=hm;rw[ho] at k1;injection k1 with k1;subst k1;have hv:=k3 (ai hb.1);have G:=r.hp.ok j t _ k2 ho;obtain⟨_,xs,H,L⟩:=G;have O:kU β [j]=t.all:=by simp[kU,k2]
       have z:∀b∈t.bs,b∈kU β [j]:=(by grind[Tr.all]);have I:t.bs.Nodup:=(eg.1 (r.hp.nd j t k2)).2.1;refine⟨by simp;exact(bTh hb.2).symm,?_⟩;rcases eF H with⟨b1,J,Q,R,S⟩|⟨b,cur,b1,J,Q,R,S,V,W⟩
       ·grind[Tr.val,inl,List.eq_nil_of_length_eq_zero]
       ·exact⟨some ⟨b,0,none⟩,t.c,xs,by rw[hv];simp[Tr.val,b1,J],H.1, .inr ⟨_,rfl,λj u T=>sH H b1 T⟩,t.bs,L,z,I⟩
    ·cases f
   |_=>cases f
def bYs {e k n:Nat}{v:Value}{xs:List Value}{w:World}(h:w.ownsRow 0 e k v n xs)(bs:List Nat):∃t:Tr,t.val=v/\t.b=v.ownBlock/\t.bs=bs:=by
 rcases h.2 with⟨rfl,_⟩|⟨c,cap,cur,rfl,_⟩
 ·exact⟨⟨none,0,0,bs⟩,rfl,rfl,rfl⟩
 ·exact⟨⟨some c,n,cap,bs⟩,rfl,rfl,rfl⟩
def bJ1 (T:uS P TI=true)(hY:LayOk Y)(r:bB Y.C E s a w β){o:Oper}{t:TypeId}{x y:Operand}{e ek eb k i:Nat}{zz:List Kz}{px py:Lf U}{d d':Bool}{l l':List (U.El e)}{s1:St U}{ids:List Nat}
  (ho:o.op= .call {callee:= .builtin .append,args:= #[x,y],argTypes:= #[t,t]}) (h1:kG TI t=some ⟨.sl e ek eb,k,zz⟩) (h2:Nat.ble eb 2048=true) (h3:K4 (U:=U) e ek e=true) (h4:eG s x= .l px) (h5:eG s y= .l py)
  (h6:apD s e px=some (i,d,l,s1)) (h7:apS Y s1.m e i py=some (l',ids,d')) (hg:aO l l'):
  SO P Y.C E a w o (.l (.own i (Nat.succ s1.m.k))) ⟨s1.t,⟨kil (Nat.succ s1.m.k) ids (upd s1.m.o i ⟨.tree e (d&&d') (l++l'),Nat.succ s1.m.k,Nat.succ s1.m.k⟩),Nat.succ s1.m.k,s1.m.ns⟩,s1.fr⟩ false:=λK Q hK=>by
 have I:=(Kt (bM T h1) rfl).1;obtain⟨_,_,_,_,_,_,_,_,hk0⟩:=fH I;simp only[K4,ab] at h3;have V:U.K e=ek:=ai h3.2;have G:0<U.K e:=by omega
 obtain⟨β1,tr,rv,cv,p,e1,e2,e3,F,W,e6,_⟩:=bVu r G h4 h6;have Z:eG s1 y= .l py:=by rw[<-h5];unfold eG xW;rw[e1,e2]
 obtain⟨hJ,A,c,news,q1,q2,q3,B,q4,q5,q6⟩:=bMe hY p G (mX p Z) h7;have hok:=p.hp.ok i tr _ F W;obtain⟨_,xs,c1,c2⟩:=hok;have hb':eb<=2048:=aE h2;unfold aO at hg;rw[V] at c1 q2;obtain⟨v',w',a1,a2,q,S⟩:=aYo (P:=P) (ty:=o.type) I c1 (A:=A) (c:=c) q2 q3 q4.ones (by grind[maxLen]) (by
  calc (l.length+l'.length)*eb<=68719476736*2048:=ij hg hb'
   _=140737488355328:=by decide)
 obtain⟨t2,t3,t4,t5⟩:=bYs a2 (tr.bs++B);have htv:tr.val.ownBlock=tr.b:=by cases h:tr.b<;>simp[Tr.val,Value.ownBlock,h]
 rw[htv] at q S;rw[<-t4] at S;have hnd:=p.hp.nd i tr F;have hBd:∀b∈B,b∉tr.all:=λb hb hb'=>by
  obtain⟨j,hj,u,L,z⟩:=Eg (q5 b hb);exact p.hp.dist j i u tr b (by grind[List.nodup_cons]) L F z hb'
 have O:∀b∈B,b<w.heap.size:=λb hb=>by
  obtain⟨j,hj,u,L,z⟩:=Eg (q5 b hb);exact(p.hp.new j u b L z).2
 have R:∀b,(b∈tr.bs\/b∈B)->some b≠tr.b:=λb hb e=>by
  rcases hb with hb|hb
  ·have h':b∈tr.b.toList:=by simp[*]
   exact(eg.1 hnd).2.2 b h' b hb rfl
  grind[Tr.root]
 obtain⟨β',r2,r3,_⟩:=p.turn (w':=w') (J:=ids) (ob:= .tree e (d&&d') (l++l')) (rv:=s1.m.k+1) (t':=t2) W F hJ q.size q.os q.tape q.output
  (λb hb hn=>q.block b hb (by grind[Tr.root]))
  (λb hb=>by
   simp only[Tr.all,t5,ce,gv] at hb;rcases hb with hb|hb|hb
   ·rcases S with h|h
    ·have f:tr.b=some b:=by simp_all
     exact⟨ca (p.hp.new i tr b F (Tr.root f)).2 q.size, .inr (.inl (Tr.root f))⟩
    ·rw[h] at hb;have f:b=w.heap.size:=by grind
     refine⟨?_, .inl (by omega)⟩;have:=a2.lt b (by rw[<-t4,h,f]);exact this.2
   ·exact⟨ca (p.hp.new i tr b F (by simp[Tr.all,hb])).2 q.size, .inr (.inl (by simp[Tr.all,hb]))⟩
   ·obtain⟨j,hj,u,L,z⟩:=Eg (q5 b hb);exact⟨ca (O b hb) q.size, .inr (.inr ⟨j,hj,u,L,z⟩)⟩)
  (by
   have hbs:(tr.bs++B).Nodup:=by
    grind[Tr.all,List.nodup_append,q6]
   rw[Tr.all,t5,eg];refine⟨by cases t2.b<;>simp,hbs,λb hb b' hb' e=> ?_⟩;subst e;have f:t2.b=some b:=by simp_all
   rcases S with h|h
   ·simp_all
   ·rw[h] at f;injection f with f;rcases ce.1 hb' with hb'|hb'
    ·have:=(p.hp.new i tr b F (by simp[Tr.all,hb'])).2;omega
    grind)
  (.inr rfl) (λh=>by cases h) (λβ' m' n=>by
   refine⟨G,xs++news,?_,?_⟩
   ·simp[*]
   ·rw[cE,dn,t5];have H:(d&&d')=true->d=true:=(by simp_all);have D:(d&&d')=true->d'=true:=(by simp);exact OwL.app ((c2.conv n.sz n.hX n.hc (λb hb=>q.block b (p.hp.new i tr b F (by simp[Tr.all,hb])).2 (R b (.inl hb)))).fl H)
     ((q4.conv n.sz n.hX n.hc (λb hb=>q.block b (O b hb) (R b (.inr hb)))).fl D))
 refine wpo (w':=w') (v:=v') (.inl ?_) (hK _ _ β' r2 (λ_=> ?_) (λh=>by cases h))
 ·simp_all[execOp,resolve,invoke,builtin,Sem.run_bind,Sem.run_pure,Result.andThen_ok,gS,bw,eL,q1]
 ·refine⟨⟨ao _,by rw[<-t3];rfl⟩,⟨.tree e (d&&d') (l++l'),s1.m.k+1,s1.m.k+1⟩,t2,?_,r3,λ_=>t3.symm⟩;rw[Ef (co.1 hJ).1,cK,bm (lt_of_some W)]
def aZd {t ty e:TypeId}{i:TypeInfo}(ht:P.underlying t=some (.slice e))(hi:P.info? e=some i)(f o sLen sCap:Nat)(cur:Array Value)(hg:w.heap[f]? =some (.cells cur e (0,0)))
  (p:Addr) (m c:Nat) (news:List Value) (hl:news.length=m*i.size) (b:∀j u,news[j]? =some u->w.cell? (p.add j)=some u) (h1:∀u∈news,u.oneCell'=true)
  (d:sLen+m<=sCap) (k:o+sLen*i.size+news.length<=cur.size):
  (Builtin.append_ #[t,t] ty #[.slice (some ⟨f,o,none⟩) sLen sCap, .slice (some p) m c]).run P w=
   .ok (.slice (some ⟨f,o,none⟩) (sLen+m) sCap) (w.setRow f (cur.toList.take (o+sLen*i.size)++news++cur.toList.drop (o+sLen*i.size+news.length)).toArray):=by
 have l:=run_firstCells_some (P:=P) w i.size m p m c news hl b;have h:=run_storeCells_at P f (o+sLen*i.size) e news 0 cur w hg (by assumption) h1;simp only[dg] at h;simp[Builtin.append_,run_underlying ht,sizeOf,typeInfo,hi,Builtin.lenOf,d,l,fT,h]
def aZe {t ty e k bts:Nat}(ht:slB P t e k bts=true){u:Tr}{n q:Nat}{xs:List Value}(hown:w.ownsRow 0 e k u.val n xs)(hq:q<=n){A:Option Addr}{m c:Nat}{news:List Value}(hl:news.length=m*k)(W:0<m)
  (R:m=0\/∃p,A=some p/\∀j u,news[j]? =some u->w.cell? (p.add j)=some u) (h1:∀u∈news,u.oneCell'=true) (hm:n+m<=maxLen) (hb:(n+m)*bts<=140737488355328):
  ∃(S:Value) (w':World) (r F v q':Nat) (ys:List Value),(Builtin.append_ #[t,t] ty #[aYs k u q n, .slice A m c]).run P w= .ok S w'/\w'.ownsRow 0 e k (.slice (some ⟨r,0,none⟩) v F) v (ys++news)/\w.grownBy w' u.b/\
   S= .slice (if F=q' then some ⟨r,0,none⟩ else some (Addr.add ⟨r,0,none⟩ (q'*k))) (v-q') (F-q')/\
   ((u.b=some r/\q'=q/\v=n+m/\ys=xs)\/(r=w.heap.size/\q'=0/\v=n-q+m/\ys=xs.drop (q*k))):=by
 obtain⟨T,i,z,hi,Z,G,H,I,hk0⟩:=fH ht;subst G;subst H;obtain⟨p,hA,d⟩:∃p,A=some p/\∀j u,news[j]? =some u->w.cell? (p.add j)=some u:=(by grind);subst hA;have x:=hown.1;have l:(xs.drop (q*i.size)).length=(n-q)*i.size:=by rw[cr,x,Nat.sub_mul]
 have hlen:(xs.drop (q*i.size)++news).length=(n-q+m)*i.size:=by rw[az,l,hl,dp]
 have h63:n+m<=9223372036854775807:=by assumption
 have grown:∀(old:Nat),old<n-q+m->(w.drew.alloc (.cells ((xs.drop (q*i.size)).toArray++news.toArray++Builtin.zeroCells z.cells (grownCap w (n-q+m) old e-(n-q+m))) e)).ownsRow 0 e i.size
    (.slice (some ⟨w.heap.size,0,none⟩) (n-q+m) (grownCap w (n-q+m) old e)) (n-q+m) (xs.drop (q*i.size)++news)/\
   w.grownBy (w.drew.alloc (.cells ((xs.drop (q*i.size)).toArray++news.toArray++Builtin.zeroCells z.cells (grownCap w (n-q+m) old e-(n-q+m))) e)) u.b:=by
  intro old ho;have y:=grownCap_ge w (n-q+m) old e;have J:grownCap w (n-q+m) old e<=maxLen:=(by grind[grownCap_le_maxLen]);refine⟨⟨hlen, .inr ⟨w.heap.size,_,_,rfl,cm _,heap_alloc_new w.drew _,y,J,?_,?_⟩⟩,⟨rfl,rfl,rfl,by simp,λk hk _=>heap_alloc_old w.drew _ hk⟩⟩
  ·simp only[gC,gy,size_zeroCells,I,l,hl,<-dp];simp[*]
  grind
 rcases eF hown with⟨b1,b2,b3,V,L⟩|⟨b,cur,b1,b2,b3,V,L,b6,b7⟩
 ·grind[Addr.add,grownCap_ge,run_append_nil,aYs]
 ·by_cases f:n+m<=u.c
  ·have O:¬u.c=q:=by omega
   have hs:aYs i.size u q n= .slice (some ⟨b,q*i.size,none⟩) (n-q) (u.c-q):=by grind[aYs,fT]
   have B:q*i.size+(n-q)*i.size=n*i.size:=by rw[<-dp];simp[*]
   have h:q*i.size+(n-q)*i.size+news.length<=cur.size:=by rw[B,hl,b6,<-dp];exact dt _ f
   have hr:=aZd (P:=P) (w:=w) (ty:=ty) T hi b (q*i.size) (n-q) (u.c-q) cur L p m c news hl d h1 (by omega) h;rw[B] at hr h;refine⟨_,_,b,u.c,n+m,q,xs,by rw[hs];exact hr,⟨by rw[az,x,hl,dp], .inr ⟨b,u.c,_,rfl,cm _,setRow_heap w b cur _ e _ L,f,V,?_,?_⟩⟩,⟨rfl,rfl,rfl,by simp,λk _ hk=>setRow_other w b k _ (λe=>hk (by rw[b1,e]))⟩,?_, .inl ⟨b1,rfl,rfl,rfl⟩⟩
   ·grind
   ·grind[List.take_left,List.length_append,Nat.add_mul]
   simp_all[cG,fT,cl];omega
  ·have holds:∀(Q:Addr),(∀j,Q.add j=⟨b,q*i.size+j,none⟩)->∀j u',(xs.drop (q*i.size))[j]? =some u'->w.cell? (Q.add j)=some u':=λQ hp j u' hj=>by
    rw[hp];have:=sH hown b1 (i:=q*i.size+j) (by simpa using hj)
    grind[fT]
   have D:=grown (u.c-q) (by omega);have y:=grownCap_ge w (n-q+m) (u.c-q) e;have o:=growslice_fits (old:=u.c-q) (need:=n-q+m) (bytes:=i.bytes) (by omega) (bo (dt _ (by omega)) hb);refine⟨.slice (some ⟨w.heap.size,0,none⟩) (n-q+m) (grownCap w (n-q+m) (u.c-q) e),_,w.heap.size,grownCap w (n-q+m) (u.c-q) e,n-q+m,0,_,?_,D.1,D.2,by rw[cG (by omega)];simp[Addr.add], .inr ⟨rfl,rfl,rfl,rfl⟩⟩;by_cases O:u.c=q
   ·grind[lt_of_some,run_append_grow,aYs]
   ·have hs:aYs i.size u q n= .slice (some ⟨b,q*i.size,none⟩) (n-q) (u.c-q):=by grind[aYs,fT]
    rw[hs];exact run_append_grow (P:=P) w t ty e i z T hi Z ⟨b,q*i.size,none⟩ (n-q) (u.c-q) _ l (by grind[fT]) p m c news hl d (by omega) (by omega) o
def aVb (I:uS P TI=true)(hY:LayOk Y)(r:bB Y.C E s a w β){o:Oper}{t:TypeId}{x y:Operand}{e ek eb k i c:Nat}{zz:List Kz}{py:Lf U}{d':Bool}{n:Int}{l l':List (U.El e)}
  (ho:o.op= .call {callee:= .builtin .append,args:= #[x,y],argTypes:= #[t,t]}) (h1:kG TI t=some ⟨.sl e ek eb,k,zz⟩) (h2:Nat.ble eb 2048=true) (h3:K4 (U:=U) e ek e=true) (h4:eG s x= .l (.suf i c e n l)) (h5:eG s y= .l py)
  (h6:okv s.m i c=true) (h7:apS Y s.m e i py=some (l',[],d')) (hne:1<=l'.length) (hg:aO l l'):
  SO P Y.C E a w o (.l (.bor i (Nat.succ s.m.k) e (l.drop n.toNat++l'))) ⟨s.t,⟨upd s.m.o i ⟨.dead,Nat.succ s.m.k,Nat.succ s.m.k⟩,Nat.succ s.m.k,s.m.ns⟩,s.fr⟩ false:=λK Q hK=>by
 have D:=(Kt (bM I h1) rfl).1;obtain⟨_,_,_,_,_,_,_,_,hk0⟩:=fH D;simp only[K4,ab] at h3;have q:U.K e=ek:=ai h3.2;have F:0<U.K e:=by omega
 obtain⟨hJ,A,c0,news,q1,q2,q3,B,q4,q5,q6⟩:=bMe hY r F (mX r h5) h7;have hB:B=[]:=by
  cases B with
  |nil=>rfl
  |cons b B=>have:=q5 b (by simp);grind[kU]
 subst hB;obtain⟨_,e',tr,k1,k2,k3⟩:=mX r h4;obtain⟨e2,H,g2⟩:=Qy h6;rw[k1] at H;injection H with H;subst H;obtain⟨d,a1,a2,a3,a4⟩:=k3 g2;have G:=r.hp.ok i tr _ k2 k1;rw[a1] at G;obtain⟨_,xs,c1,c2⟩:=G;have hb':eb<=2048:=aE h2;unfold aO at hg;rw[q] at c1 q2;obtain⟨v',w',p,c',z,q',ys,p1,p2,u,p4,p5⟩:=aZe (P:=P) (ty:=o.type) D c1 a3 (A:=A) (c:=c0) q2 (by omega) q3 q4.ones (by grind[maxLen]) (by
  calc (l.length+l'.length)*eb<=68719476736*2048:=ij hg hb'
   _=140737488355328:=by decide)
 obtain⟨L,Bs,hL,O,R,S⟩:∃(L:List (U.El e)) (Bs:List Nat),OwL Y.C w (E.X β) d ys (L.map (Y.C.cel e)).flatten Bs/\z=L.length+l'.length/\(L++l').drop q'=l.drop n.toNat++l'/\List.Sublist Bs tr.bs:=by
  rcases p5 with⟨_,rfl,rfl,rfl⟩|⟨_,rfl,rfl,rfl⟩
  ·grind
  ·have hsp:(l.map (Y.C.cel e)).flatten=((l.take n.toNat).map (Y.C.cel e)).flatten++((l.drop n.toNat).map (Y.C.cel e)).flatten:=by rw[<-dn,<-cE,cW]
   rw[hsp] at c2;obtain⟨v1,v2,B1,B2,e1,e2,o1,o2⟩:=OwL.split c2;have hv1:v1.length=n.toNat*ek:=by rw[o1.len,K3 (Y.C.hlen e),cb,ic a3,q]
   grind
 have htv:tr.val.ownBlock=tr.b:=by cases h:tr.b<;>simp[Tr.val,Value.ownBlock,h]
 have T:=r.hp.nd i tr k2;let t2:Tr:=⟨some p,z,c',Bs⟩;have j:∀b∈Bs,b∈tr.all/\some b≠tr.b:=(by grind[Tr.all,List.nodup_append]);have V:(p∈tr.all/\tr.b=some p)\/p=w.heap.size:=by
  grind[inl,Tr.root]
 have W:p<w'.heap.size:=(p2.lt p rfl).2;obtain⟨β',r2,r3,f⟩:=r.turn (w':=w') (J:=[]) (ob:= .dead) (rv:=s.m.k+1) (t':=t2) k1 k2 (by simp) u.size u.os u.tape u.output
  (λb hb hn=>u.block b hb (by grind[Tr.root]))
  (λb hb=>by
   simp only[t2,Tr.all,cX,ce,dh] at hb;rcases hb with rfl|hb
   ·grind
   ·exact⟨ca (r.hp.new i tr b k2 (j b hb).1).2 u.size, .inr (.inl (j b hb).1)⟩)
  (by
   simp only[t2,Tr.all,cX,List.singleton_append,co];refine⟨λh=> ?_,S.nodup (eg.1 T).2.1⟩;rcases V with h2|h2
   ·grind
   ·have:=(r.hp.new i tr p k2 (j p h).1).2;omega)
  (.inr rfl) (λh=>by cases h) (λ_ _ _=>trivial)
 have hOw:Ow Y.C w' (λb=>E.X β' b\/b∈t2.all) false t2.val (.sl e (L++l')) t2.all:=by
  have hX:∀b,b<w.heap.size->(E.X β' b\/b∈t2.all)->E.X β b:=λb hb h=>h.elim (f.hX b hb) (λh=>f.hX b hb (cC5 r3 h));refine .sl t2 F (xs:=ys++news) ?_ ?_
  ·rw[az,q,<-O];exact p2
  ·rw[cE,dn];have:=OwL.app ((hL.conv f.sz hX f.hc (λb hb=>u.block b (r.hp.new i tr b k2 (j b hb).1).2 (j b hb).2)).soft) ((q4.conv f.sz hX f.hc (λb hb=>by simp at hb)).soft)
   grind
 have hRd:=hOw.rd (Z:=λb=>E.X β' b/\b∉t2.all) (λb hb=> .inl hb.1) (by simp_all);refine wpo (w':=w') (v:=v') (.inl ?_) (hK _ _ β' (by assumption) (λ_=> ?_) (λh=>by cases h))
 ·simp_all[execOp,resolve,invoke,builtin,Sem.run_bind,Sem.run_pure,Result.andThen_ok,gS,bw,eL,q1]
 ·refine⟨⟨ao _,by rw[p4];rfl⟩,⟨.dead,s.m.k+1,s.m.k+1⟩,t2,?_,r3,λ_=> ?_⟩
  ·simp only[cK];rw[bm (lt_of_some k1)]
  ·have hle:q'<=z:=by rcases p5 with⟨_,rfl,rfl,_⟩|⟨_,rfl,rfl,_⟩<;>omega
   have:=Rd.sub (A:=some ⟨p,0,none⟩) (n:=z) (c:=c') hRd (a:=q') (b:=z) hle (by simp[*]);have e1:((((L++l').map (U.enc e)).take z).drop q')=(l.drop n.toNat++l').map (U.enc e):=by rw[<-R,eN,ex (by simp[*])]
   simp_all
end
end Go.EV
