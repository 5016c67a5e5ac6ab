import Derived.Test.YtpnhnhhcncnldaaGreatDoorVKatos
/- Printed by wip/tools: models, walks, proofs. -/
set_option linter.all false
namespace Go.EV
open Go.RowKit Go.VK
structure Uni where
 El:Nat->Type
 K:Nat->Nat
 enc:(τ:Nat)->El τ->List V
inductive Lf (U:Uni) where
 |int (k:IntKind) (n:Int)
 |bool (b:Bool)
 |str (s:ByteArray)
 |nat (a:Nat)
 |lt (a:Nat) (m:Int)
 |sl (τ:Nat) (l:List (U.El τ))
 |nil
 |own (i r:Nat)
 |bor (i c τ:Nat) (l:List (U.El τ))
 |inn (i c τ:Nat) (q:Int) (z:U.El τ) (j τ':Nat) (l:List (U.El τ'))
 |box (i off:Nat)
 |ptr (τ:Nat) (z:U.El τ) (off:Nat)
 |oel (i c τ:Nat) (q:Int) (z:U.El τ) (off:Nat)
 |oin (i c τ:Nat) (q:Int) (z:U.El τ) (j τ':Nat) (l:List (U.El τ')) (q':Int) (z':U.El τ') (off:Nat)
 |suf (i c τ:Nat) (q:Int) (l:List (U.El τ))
 |und
 |any
variable {U:Uni}
def Lf.toV:Lf U->V
 | .int k n=> .int k n
 | .bool b=> .bool b
 | .str s=> .str s
 | .sl τ l=> .slice (U.K τ) (l.map (U.enc τ))
 | .nil=> .nil
 |_=> .any
def Lf.aBB:Lf U->Bool
 | .int .. | .bool _| .str _| .sl .. =>true
 |_=>false
structure Cod (U:Uni) where
 cel:(τ:Nat)->U.El τ->List (Lf U)
 bld:(τ:Nat)->List (Lf U)->Option (U.El τ)
 hcel:∀τ x,(cel τ x).map Lf.toV=U.enc τ x
 hlen:∀τ x,(cel τ x).length=U.K τ
 hdat:∀τ x c,c∈cel τ x->c.aBB=true
 hmk:∀τ cs x,bld τ cs=some x->cs=cel τ x
inductive Ob (U:Uni) where
 |dead
 |box (T:Nat) (cs:List (Lf U)) (vs:List Nat)
 |tree (τ:Nat) (d:Bool) (l:List (U.El τ))
def Ob.aAY:Ob U->Bool
 | .box .. =>true
 |_=>false
structure EO (U:Uni) where
 ob:Ob U
 rv:Nat
 cv:Nat
inductive Sv (U:Uni) where
 |l (x:Lf U)
 |a (cs:List (Lf U))
 |t (xs:List (Bool×List (Lf U)))
structure Mm (U:Uni) where
 o:List (EO U)
 k:Nat
 ns:List (Nat×Bool)
structure St (U:Uni) where
 t:List (Sv U)
 m:Mm U
 fr:List (List (Sv U))
structure Tr where
 b:Option Nat
 n:Nat
 c:Nat
 bs:List Nat
def Tr.val (t:Tr):Value:= .slice (t.b.map λb=>⟨b,0,none⟩) t.n t.c
def Tr.all (t:Tr):List Nat:=t.b.toList++t.bs
def aOr (K:Nat)(t:Tr)(q n:Nat):Value:= .slice (if t.c=q then t.b.map λb=>⟨b,0,none⟩ else(t.b.map λb=>(⟨b,0,none⟩:Addr)).map λp=>p.add (q*K)) (n-q) (t.c-q)
mutual
inductive Ow (C:Cod U) (w:World) (X:Nat->Prop) (d:Bool):Value->Lf U->List Nat->Prop
 |int {k:IntKind} {n:Int} (h1:k.min<=n) (h2:n<=k.max):Ow C w X d (.int k n) (.int k n) []
 |bool {b:Bool}:Ow C w X d (.bool b) (.bool b) []
 |str {s:ByteArray} (h:s.size<=maxLen):Ow C w X d (.string s) (.str s) []
 |fz {v:Value} {τ:Nat} {l:List (U.El τ)} (hd:d=false) (h:Rd w X [] v (.slice (U.K τ) (l.map (U.enc τ)))):Ow C w X d v (.sl τ l) []
 |sl {τ:Nat} {l:List (U.El τ)} {xs:List Value} (t:Tr) (hk:0<U.K τ) (hown:w.ownsRow 0 τ (U.K τ) t.val l.length xs) (hc:OwL C w X d xs (l.map (C.cel τ)).flatten t.bs):Ow C w X d t.val (.sl τ l) t.all
 |su {τ:Nat} {l:List (U.El τ)} {xs:List Value} (hd:d=false) (t:Tr) (q:Nat) (hk:0<U.K τ) (hq:q<=l.length) (hown:w.ownsRow 0 τ (U.K τ) t.val l.length xs) (hc:OwL C w X d xs (l.map (C.cel τ)).flatten t.bs):Ow C w X d (aOr (U.K τ) t q l.length) (.sl τ (l.drop q)) t.all
inductive OwL (C:Cod U) (w:World) (X:Nat->Prop) (d:Bool):List Value->List (Lf U)->List Nat->Prop
 |n:OwL C w X d [] [] []
 |c {v:Value} {x:Lf U} {B B':List Nat} {vs:List Value} {xs:List (Lf U)} (h:Ow C w X d v x B) (hr:OwL C w X d vs xs B'):OwL C w X d (v::vs) (x::xs) (B++B')
end
variable {C:Cod U}
theorem Tr.root {t:Tr}{b:Nat}(h:t.b=some b):b∈t.all:=by simp[Tr.all,h]
def oU {w w':World}{T k n:Nat}{t:Tr}{xs:List Value}(h:w.ownsRow 0 T k t.val n xs)(e:∀b,t.b=some b->w'.heap[b]? =w.heap[b]?):w'.ownsRow 0 T k t.val n xs:=by
 refine⟨h.1,h.2.imp id ?_⟩;rintro⟨d,cap,cur,c,f,i,j⟩;refine⟨d,cap,cur,c,f,?_,j⟩;rw[e d ?_]
 ·exact i
 ·cases hb:t.b with
  |none=>simp[Tr.val,hb] at c
  |some b=>simp[Tr.val,hb] at c;rw[c.1]
section
variable {w w':World} {X X':Nat->Prop}
mutual
def Ow.conv {d:Bool}(hsz:w.heap.size<=w'.heap.size)(hX:∀b,b<w.heap.size->X' b->X b)(hcell:∀(p:Addr) (u:Value),¬X p.block->w.cell? p=some u->w'.cell? p=some u):
  ∀{v:Value} {x:Lf U} {B:List Nat},Ow C w X d v x B->(∀b∈B,w'.heap[b]? =w.heap[b]?)->Ow C w' X' d v x B
 |_,_,_, .int h1 h2,_=> .int h1 h2
 |_,_,_, .bool,_=> .bool
 |_,_,_, .str h,_=> .str h
 |_,_,_, .fz hd h,_=> .fz hd (h.conv hsz hX hcell (λ_ _ h=>h))
 |_,_,_, .sl t hk hown hc,hh=> .sl t hk (oU hown λb hb=>hh b (Tr.root hb)) (OwL.conv hsz hX hcell hc λb hb=>hh b (by simp[Tr.all,hb]))
 |_,_,_, .su hd t q hk hq hown hc,hh=> .su hd t q hk hq (oU hown λb hb=>hh b (Tr.root hb)) (OwL.conv hsz hX hcell hc λb hb=>hh b (by simp[Tr.all,hb]))
def OwL.conv {d:Bool}(hsz:w.heap.size<=w'.heap.size)(hX:∀b,b<w.heap.size->X' b->X b)(hcell:∀(p:Addr) (u:Value),¬X p.block->w.cell? p=some u->w'.cell? p=some u):
  ∀{vs:List Value} {xs:List (Lf U)} {B:List Nat},OwL C w X d vs xs B->(∀b∈B,w'.heap[b]? =w.heap[b]?)->OwL C w' X' d vs xs B
 |_,_,_, .n,_=> .n
 |_,_,_, .c h hr,hh=> .c (Ow.conv hsz hX hcell h λb hb=>hh b (by simp[hb])) (OwL.conv hsz hX hcell hr λb hb=>hh b (by simp[hb]))
end
mutual
def Ow.soft {d:Bool}:∀{v:Value} {x:Lf U} {B:List Nat},Ow C w X d v x B->Ow C w X false v x B
 |_,_,_, .int h1 h2=> .int h1 h2
 |_,_,_, .bool=> .bool
 |_,_,_, .str h=> .str h
 |_,_,_, .fz hd h=> .fz rfl h
 |_,_,_, .sl t hk hown hc=> .sl t hk hown (OwL.soft hc)
 |_,_,_, .su hd t q hk hq hown hc=> .su rfl t q hk hq hown (OwL.soft hc)
def OwL.soft {d:Bool}:∀{vs:List Value} {xs:List (Lf U)} {B:List Nat},OwL C w X d vs xs B->OwL C w X false vs xs B
 |_,_,_, .n=> .n
 |_,_,_, .c h hr=> .c (Ow.soft h) (OwL.soft hr)
end
def OwL.split {d:Bool}:∀{vs:List Value} {xs ys:List (Lf U)} {B:List Nat},OwL C w X d vs (xs++ys) B->∃b e i f,vs=b++e/\B=i++f/\OwL C w X d b xs i/\OwL C w X d e ys f
 |vs,[],ys,B,h=>⟨[],vs,[],B,rfl,rfl, .n,h⟩
 |_,x::xs,ys,_, .c h hr=>by
  obtain⟨b,e,i,f,rfl,rfl,h1,h2⟩:=OwL.split hr;exact⟨_::b,e,_,f,rfl,by rw[cq], .c h h1,h2⟩
def OwL.app {d:Bool}:∀{b e:List Value} {xs ys:List (Lf U)} {f i:List Nat},OwL C w X d b xs f->OwL C w X d e ys i->OwL C w X d (b++e) (xs++ys) (f++i)
 |_,_,_,_,_,_, .n,h=>h
 |_,_,_,_,_,_, .c h hr,h2=>by rw[cq];exact .c h (OwL.app hr h2)
theorem OwL.len {d:Bool}:∀{vs:List Value} {xs:List (Lf U)} {B:List Nat},OwL C w X d vs xs B->vs.length=xs.length
 |_,_,_, .n=>rfl
 |_,_,_, .c _ hr=>by simp[OwL.len hr]
def Ow.one {d:Bool}{v:Value}{x:Lf U}{B:List Nat}(h:Ow C w X d v x B):v.oneCell'=true:=by
 cases h with
 |int=>rfl
 |bool=>rfl
 |str=>rfl
 |fz _ h=>exact Rd.one h rfl
 |sl=>rfl
 |su=>rfl
def OwL.ones {d:Bool}:∀{vs:List Value} {xs:List (Lf U)} {B:List Nat},OwL C w X d vs xs B->∀v∈vs,v.oneCell'=true
 |_,_,_, .n,v,hv=>by simp at hv
 |_,_,_, .c h hr,v,hv=>by
  rcases ba.1 hv with rfl|hv
  ·exact h.one
  ·exact OwL.ones hr v hv
mutual
def Ow.lt {d:Bool}:∀{v:Value} {x:Lf U} {B:List Nat},Ow C w X d v x B->∀b∈B,b<w.heap.size
 |_,_,_, .int _ _,b,hb=>by simp at hb
 |_,_,_, .bool,b,hb=>by simp at hb
 |_,_,_, .str _,b,hb=>by simp at hb
 |_,_,_, .fz _ _,b,hb=>by simp at hb
 |_,_,_, .sl t hk hown hc,b,hb=>by
  simp only[Tr.all,bw,jg] at hb;rcases hb with hb|hb
  ·have hb:t.b=some b:=hb;rcases hown.2 with⟨h5,_⟩|⟨gg,cap,cur,h5,_,h6,_⟩
   ·simp[Tr.val,hb] at h5
   ·simp[Tr.val,hb] at h5;rw[h5.1];exact(ci.1 h6).1
  ·exact OwL.lt hc b hb
 |_,_,_, .su hd t q hk hq hown hc,b,hb=>by
  simp only[Tr.all,bw,jg] at hb;rcases hb with hb|hb
  ·have hb:t.b=some b:=hb;rcases hown.2 with⟨h5,_⟩|⟨gg,cap,cur,h5,_,h6,_⟩
   ·simp[Tr.val,hb] at h5
   ·simp[Tr.val,hb] at h5;rw[h5.1];exact(ci.1 h6).1
  ·exact OwL.lt hc b hb
def OwL.lt {d:Bool}:∀{vs:List Value} {xs:List (Lf U)} {B:List Nat},OwL C w X d vs xs B->∀b∈B,b<w.heap.size
 |_,_,_, .n,b,hb=>by simp at hb
 |_,_,_, .c h hr,b,hb=>by
  rcases bw.1 hb with hb|hb
  ·exact Ow.lt h b hb
  ·exact OwL.lt hr b hb
end
end
def aBw {α β:Type}{f:α->List β}{k:Nat}(hk:∀x,(f x).length=k):∀{l:List α} {i:Nat} {x:α},l[i]? =some x->∃l1 l2,l=l1++x::l2/\l1.length=i/\(l.map f).flatten=(l1.map f).flatten++(f x++(l2.map f).flatten)/\(l1.map f).flatten.length=i*k
 |[],i,x,h=>by simp at h
 |y::l,0,x,h=>by simp at h;subst h;exact⟨[],l,rfl,rfl,rfl,by simp⟩
 |y::l,i+1,x,h=>by
  obtain⟨l1,l2,h1,h2,b,c⟩:=aBw hk (l:=l) (i:=i) (x:=x) (by simpa using h);refine⟨y::l1,l2,by rw[h1];rfl,by simp[h2],?_,?_⟩
  ·simp only[bo,cR,b,cq]
  ·simp only[bo,cR,ax,c,hk];rw[di];omega
def He {α β:Type}{f:α->List β}{k:Nat}(hk:∀x,(f x).length=k):∀{l:List α},(l.map f).flatten.length=l.length*k
 |[]=>by simp
 |y::l=>by simp only[bo,cR,ax,He hk (l:=l),hk,au,di];omega
def rV {w:World}{T k n:Nat}{t:Tr}{xs:List Value}(h:w.ownsRow 0 T k t.val n xs){b:Nat}(hb:t.b=some b){i:Nat}{v:Value}(hv:xs[i]? =some v):w.cell? (Addr.add ⟨b,0,none⟩ i)=some v:=by exact h.cells (g:=b) (by simp[Tr.val,hb,Value.ownBlock]) i v hv
def fF {w:World}{T k n:Nat}{t:Tr}{xs:List Value}(h:w.ownsRow 0 T k t.val n xs):(t.b=none/\n=0/\xs=[]/\t.n=0/\t.c=0)\/∃b cur,t.b=some b/\t.n=n/\n<=t.c/\t.c<=maxLen/\w.heap[b]? =some (.cells cur T (0,0))/\cur.size=t.c*k/\cur.toList.take (n*k)=xs:=by
 rcases h.2 with⟨d,e⟩|⟨o,cap,cur,d,_,e,i,j,l,f⟩
 ·left;cases hb:t.b with
  |some b=>simp[Tr.val,hb] at d
  |none=>simp[Tr.val,hb] at d;refine⟨rfl,e,ce ?_,d.1,d.2⟩;rw[h.1,e];simp
 ·right;cases hb:t.b with
  |none=>simp[Tr.val,hb] at d
  |some b=>simp[Tr.val,hb] at d;obtain⟨q1,q2,q3⟩:=d;subst q1;subst q2;subst q3;exact⟨_,cur,rfl,rfl,i,j,e,l,f⟩
theorem Lf.aCV {x:Lf U}(h:x.aBB=true):x.toV.one=true:=by cases x<;>simp_all [Lf.aBB,Lf.toV,V.one]
def bLv {C:Cod U}{w:World}{Z:Nat->Prop}{τ:Nat}{l:List (U.El τ)}{xs:List Value}(t:Tr)(hown:w.ownsRow 0 τ (U.K τ) t.val l.length xs)(r:∀b∈t.all,¬Z b)
  (c:xs.length=((l.map (C.cel τ)).flatten).length/\∀(i:Nat) (v:Value) (x:Lf U),xs[i]? =some v->((l.map (C.cel τ)).flatten)[i]? =some x->Rd w Z [] v x.toV):Rd w Z [] t.val (.slice (U.K τ) (l.map (U.enc τ))):=by
 have k:=c.1;rcases fF hown with⟨h1,h2,q,n,o⟩|⟨b,cur,h1,h2,q,n,o,B,D⟩
 ·have:l=[]:=ce h2;subst this;simp only[Tr.val,h1,n,o];exact .slice0 (cy _)
 ·simp only[Tr.val,h1,h2,cW];cases hl:l with
  |nil=>exact .slice0 (by omega)
  |cons F G=>
   rw[<-hl];have key:∀(i j:Nat) (e:List V) (dd:V),(l.map (U.enc τ))[i]? =some e->e[j]? =some dd->∃u,xs[i*U.K τ+j]? =some u/\Rd w Z [] u dd:=λi j e dd k1 k2=>by
    rw[bm] at k1;cases p:l[i]? with
    |none=>simp[p] at k1
    |some z=>
     simp only[p,cW,aj] at k1;subst k1;obtain⟨l1,l2,H,I,y,A⟩:=aBw (C.hlen τ) p;rw[<-C.hcel,bm] at k2;cases h:(C.cel τ z)[j]? with
     |none=>simp[h] at k2
     |some x=>
      simp only[h,cW,aj] at k2;subst k2;have d:(l.map (C.cel τ)).flatten[i*U.K τ+j]? =some x:=by rw[y,<-A,aE (cM _ _),cT,av (bc.1 h).1];exact h
      have f:i*U.K τ+j<xs.length:=by rw[k];exact(bc.1 d).1
      exact⟨_,ae f,c.2 _ _ _ (ae f) d⟩
   refine .slice (val:=λi j=>xs.getD (i*U.K τ+j) undef) (by simp) (by simp[hl]) q n (r b (Tr.root h1)) (ci.1 o).1 (λe he=> ?_) (λi j e dd k1 k2=> ?_) (λi j e dd k1 k2=> ?_)
   ·obtain⟨z,_,rfl⟩:=cg.1 he;rw[<-C.hcel,bg,C.hlen]
   ·obtain⟨u,k3,k4⟩:=key i j e dd k1 k2;rw[rV hown h1 k3];simp[List.getD,k3]
   ·obtain⟨u,k3,k4⟩:=key i j e dd k1 k2;simp only[List.getD,k3,ck];exact k4
mutual
def Ow.rd {w:World}{X Z:Nat->Prop}{d:Bool}(hZ:∀b,Z b->X b):∀{v:Value} {x:Lf U} {B:List Nat},Ow C w X d v x B->(∀b∈B,¬Z b)->Rd w Z [] v x.toV
 |_,_,_, .int h1 h2,_=> .int h1 h2
 |_,_,_, .bool,_=> .bool
 |_,_,_, .str h,_=> .str h
 |_,_,_, .fz hd h,_=>h.conv (ai _) (λb _ hb=>hZ b hb) (λ_ _ _ h=>h) (λ_ _ h=>h)
 |_,_,_, .sl t hk hown hc,hh=>bLv t hown hh (OwL.rd hZ hc (λb hb=>hh b (by simp[Tr.all,hb])))
 |_,_,_, .su (τ:=τ) (l:=l) hd t q hk hq hown hc,hh=>by
  have h:=bLv t hown hh (OwL.rd hZ hc (λb hb=>hh b (by simp[Tr.all,hb])));have hn:t.n=l.length:=by rcases fF hown with⟨_,h2,_,h4,_⟩|⟨_,_,_,h2,_⟩<;>omega
  have:=Rd.sub (show Rd w Z [] (.slice (t.b.map λb=>⟨b,0,none⟩) t.n t.c) (.slice (U.K τ) (l.map (U.enc τ))) from h) (a:=q) (b:=l.length) hq (by rw[bg];exact ai _);rw[dw (by rw[bg];exact ai _),<-fL] at this;exact this
def OwL.rd {w:World}{X Z:Nat->Prop}{d:Bool}(hZ:∀b,Z b->X b):∀{vs:List Value} {xs:List (Lf U)} {B:List Nat},OwL C w X d vs xs B->(∀b∈B,¬Z b)->vs.length=xs.length/\∀(i:Nat) (v:Value) (x:Lf U),vs[i]? =some v->xs[i]? =some x->Rd w Z [] v x.toV
 |_,_,_, .n,_=>by simp
 |_,_,_, .c h hr,hh=>by
  have ih:=OwL.rd hZ hr (λb hb=>hh b (by simp[hb]));have h0:=Ow.rd hZ h (λb hb=>hh b (by simp[hb]));refine⟨by simp[ih.1],λi v x h1 h2=> ?_⟩;cases i with
  |zero=>simp at h1 h2;subst h1;subst h2;exact h0
  |succ i=>exact ih.2 i v x (by simpa using h1) (by simpa using h2)
end
end Go.EV
namespace Go.EV
open Go.RowKit Go.VK
variable {U:Uni} {C:Cod U}
def Lf.mean (C:Cod U)(w:World)(X:Nat->Prop)(β:List Tr)(s:Mm U)(v:Value):Lf U->Prop
 | .int kd n=>v= .int kd n/\kd.min<=n/\n<=kd.max
 | .bool b=>v= .bool b
 | .str z=>v= .string z/\z.size<=maxLen
 | .nat a=>∃i f,s.ns[a]? =some (i,f)/\v= .int .i64 (i:Int)/\(i:Int)<=9223372036854775807
 | .lt a m=>∃i f,s.ns[a]? =some (i,f)/\v= .bool (decide ((i:Int)<m))/\m<=9223372036854775807
 | .sl τ l=>Rd w X [] v (.slice (U.K τ) (l.map (U.enc τ)))
 | .nil=>v= .slice none 0 0
 | .own i r=>(r<=s.k/\v.oneCell'=true)/\∃e t,s.o[i]? =some e/\β[i]? =some t/\(e.rv=r->v=t.val)
 | .bor i c τ l=>(c<=s.k/\v.oneCell'=true)/\∃e t,s.o[i]? =some e/\β[i]? =some t/\(e.cv=c->Rd w (λb=>X b/\b∉t.all) [] v (.slice (U.K τ) (l.map (U.enc τ))))
 | .inn i c τ q z j τ' l=>(c<=s.k/\v.oneCell'=true)/\∃e t,s.o[i]? =some e/\β[i]? =some t/\(e.cv=c->∃d L xs,e.ob= .tree τ d L/\0<=q/\L[q.toNat]? =some z/\(C.cel τ z)[j]? =some (.sl τ' l)/\w.ownsRow 0 τ (U.K τ) t.val L.length xs/\xs[q.toNat*U.K τ+j]? =some v)
 | .box i off=>v.oneCell'=true/\∃e t,s.o[i]? =some e/\β[i]? =some t/\(e.ob.aAY=true->∃b,t.b=some b/\v= .pointer (some ⟨b,off,none⟩))
 | .ptr τ z off=>Rd w X [] v (.elem ((U.enc τ z).drop off))
 | .oel i c τ q z off=>(c<=s.k/\v.oneCell'=true)/\∃e t,s.o[i]? =some e/\β[i]? =some t/\(e.cv=c->∃d L b,e.ob= .tree τ d L/\0<=q/\L[q.toNat]? =some z/\t.b=some b/\v= .pointer (some ⟨b,q.toNat*U.K τ+off,none⟩))
 | .oin i c τ q z j τ' l q' z' off=>(c<=s.k/\v.oneCell'=true)/\∃e t,s.o[i]? =some e/\β[i]? =some t/\(e.cv=c->∃L xs v0 b h p,e.ob= .tree τ true L/\0<=q/\L[q.toNat]? =some z/\(C.cel τ z)[j]? =some (.sl τ' l)/\w.ownsRow 0 τ (U.K τ) t.val L.length xs/\xs[q.toNat*U.K τ+j]? =some v0/\v0= .slice (some ⟨b,0,none⟩) h p/\0<=q'/\l[q'.toNat]? =some z'/\v= .pointer (some ⟨b,q'.toNat*U.K τ'+off,none⟩))
 | .suf i c τ q l=>(c<=s.k/\v.oneCell'=true)/\∃e t,s.o[i]? =some e/\β[i]? =some t/\(e.cv=c->∃d,e.ob= .tree τ d l/\0<=q/\q.toNat<=l.length/\v=aOr (U.K τ) t q.toNat l.length)
 | .und=>v=undef
 | .any=>True
def Ms (C:Cod U)(w:World)(X:Nat->Prop)(β:List Tr)(s:Mm U)(vs:List Value)(cs:List (Lf U)):Prop:=
 vs.length=cs.length/\∀(i:Nat) (v:Value) (c:Lf U),vs[i]? =some v->cs[i]? =some c->c.mean C w X β s v
def Mp (C:Cod U)(w:World)(X:Nat->Prop)(β:List Tr)(s:Mm U)(v:Value):Bool×List (Lf U)->Prop
 |(false,cs)=>∃c,cs=[c]/\c.mean C w X β s v
 |(true,cs)=>∃vs:List Value,v= .agg vs.toArray/\Ms C w X β s vs cs
def Sv.mean (C:Cod U)(w:World)(X:Nat->Prop)(β:List Tr)(s:Mm U)(v:Value):Sv U->Prop
 | .l x=>x.mean C w X β s v
 | .a cs=>∃vs:List Value,v= .agg vs.toArray/\Ms C w X β s vs cs
 | .t xs=>∃vs:List Value,v= .tuple vs.toArray/\vs.length=xs.length/\∀(i:Nat) (v:Value) (x:Bool×List (Lf U)),vs[i]? =some v->xs[i]? =some x->Mp C w X β s v x
def Lf.bd (N M K:Nat):Lf U->Prop
 | .own i r=>i<N/\r<=K
 | .bor i c _ _=>i<N/\c<=K
 | .inn i c _ _ _ _ _ _=>i<N/\c<=K
 | .box i _=>i<N
 | .oel i c _ _ _ _=>i<N/\c<=K
 | .oin i c _ _ _ _ _ _ _ _ _=>i<N/\c<=K
 | .suf i c _ _ _=>i<N/\c<=K
 | .nat a=>a<M
 | .lt a _=>a<M
 |_=>True
def Sv.bd (N M K:Nat):Sv U->Prop
 | .l x=>x.bd N M K
 | .a cs=>∀c∈cs,c.bd N M K
 | .t xs=>∀x∈xs,∀c∈x.2,c.bd N M K
structure Evo (w w':World) (X X':Nat->Prop) (β β':List Tr) (s s':Mm U) (N M K:Nat):Prop where
 sz:w.heap.size<=w'.heap.size
 hX:∀b,b<w.heap.size->X' b->X b
 hc:∀(p:Addr) (u:Value),¬X p.block->w.cell? p=some u->w'.cell? p=some u
 hk:K<=s'.k
 hn:∀(a i:Nat) (f:Bool),a<M->s.ns[a]? =some (i,f)->∃f',s'.ns[a]? =some (i,f')
 ho:∀(i:Nat) (e:EO U) (t:Tr),i<N->s.o[i]? =some e->β[i]? =some t->∃e' t',s'.o[i]? =some e'/\β'[i]? =some t'/\(e'.rv<=K->e'.rv=e.rv/\t'.val=t.val)/\
  (e'.cv<=K->e'.cv=e.cv/\e'.ob=e.ob/\t'=t/\∀b∈t.all,w'.heap[b]? =w.heap[b]?)/\(e'.ob.aAY=true->e.ob.aAY=true/\t'.b=t.b)
section
variable {w w':World} {X X':Nat->Prop} {β β':List Tr} {s s':Mm U} {N M K:Nat}
theorem lt_of_some {α:Type}{l:List α}{i:Nat}{x:α}(h:l[i]? =some x):i<l.length:=(bc.1 h).1
def Lf.aBE {v:Value}{x:Lf U}(hm:x.mean C w X β s v):x.bd s.o.length s.ns.length s.k:=by
 cases x with
 |own i r=>obtain⟨h1,e,t,h2,_⟩:=hm;exact⟨lt_of_some h2,h1.1⟩
 |bor i c τ l=>obtain⟨h1,e,t,h2,_⟩:=hm;exact⟨lt_of_some h2,h1.1⟩
 |inn i c τ q z j τ' l=>obtain⟨h1,e,t,h2,_⟩:=hm;exact⟨lt_of_some h2,h1.1⟩
 |oel i c τ q z off=>obtain⟨h1,e,t,h2,_⟩:=hm;exact⟨lt_of_some h2,h1.1⟩
 |oin i c τ q z j τ' l q' z' off=>obtain⟨h1,e,t,h2,_⟩:=hm;exact⟨lt_of_some h2,h1.1⟩
 |suf i c τ q l=>obtain⟨h1,e,t,h2,_⟩:=hm;exact⟨lt_of_some h2,h1.1⟩
 |box i off=>obtain⟨_,e,t,h2,_⟩:=hm;exact lt_of_some h2
 |nat a=>obtain⟨i,f,h2,_⟩:=hm;exact lt_of_some h2
 |lt a m=>obtain⟨i,f,h2,_⟩:=hm;exact lt_of_some h2
 |_=>trivial
def Ms.bd {vs:List Value}{cs:List (Lf U)}(hm:Ms C w X β s vs cs):∀c∈cs,c.bd s.o.length s.ns.length s.k:=λc hc=>by
 obtain⟨i,hi⟩:=cV.1 hc;have hl:i<vs.length:=by rw[hm.1];exact lt_of_some hi
 exact Lf.aBE (hm.2 i _ c (ae hl) hi)
def Sv.aBE {v:Value}{x:Sv U}(hm:x.mean C w X β s v):x.bd s.o.length s.ns.length s.k:=by
 cases x with
 |l x=>exact Lf.aBE hm
 |a cs=>obtain⟨vs,_,h⟩:=hm;exact h.bd
 |t xs=>
  obtain⟨vs,_,h2,d⟩:=hm;intro x e c hc;obtain⟨i,hi⟩:=cV.1 e;have hl:i<vs.length:=by rw[h2];exact lt_of_some hi
  have:=d i _ x (ae hl) hi;obtain⟨b,cs⟩:=x;cases b with
  |false=>obtain⟨f,rfl,h⟩:=this;simp at hc;subst hc;exact Lf.aBE h
  |true=>obtain⟨vs,_,h⟩:=this;exact h.bd c hc
def Lf.aAZ (h:Evo w w' X X' β β' s s' N M K){v:Value}{x:Lf U}(hb:x.bd N M K)(hm:x.mean C w X β s v):x.mean C w' X' β' s' v:=by
 cases x with
 |int=>exact hm
 |bool=>exact hm
 |str=>exact hm
 |nil=>exact hm
 |nat a=>obtain⟨i,f,h1,h2⟩:=hm;obtain⟨f',k⟩:=h.hn a i f hb h1;exact⟨i,f',k,h2⟩
 |lt a m=>obtain⟨i,f,h1,h2⟩:=hm;obtain⟨f',k⟩:=h.hn a i f hb h1;exact⟨i,f',k,h2⟩
 |und=>exact hm
 |any=>trivial
 |sl τ l=>exact Rd.conv hm h.sz h.hX h.hc (λ_ _ h=>h)
 |ptr τ z off=>exact Rd.conv hm h.sz h.hX h.hc (λ_ _ h=>h)
 |own i r=>obtain⟨h1,e,t,h2,k,n⟩:=hm;obtain⟨e',t',o,y,A,_⟩:=h.ho i e t hb.1 h2 k;refine⟨⟨bz hb.2 h.hk,h1.2⟩,e',t',o,y,λhr=> ?_⟩;obtain⟨q1,q2⟩:=A (hr▸hb.2);rw[q2];exact n (q1.symm.trans hr)
 |bor i c τ l=>
  obtain⟨h1,e,t,h2,k,n⟩:=hm;obtain⟨e',t',o,y,_,A,_⟩:=h.ho i e t hb.1 h2 k;refine⟨⟨bz hb.2 h.hk,h1.2⟩,e',t',o,y,λhr=> ?_⟩;obtain⟨q1,_,q3,q4⟩:=A (hr▸hb.2);subst q3;refine(n (q1.symm.trans hr)).conv h.sz (λb hb ⟨k1,k2⟩=>⟨h.hX b hb k1,k2⟩) (λp u hp hc=> ?_) (λ_ _ h=>h);by_cases J:X p.block
  ·have:p.block∈t'.all:=Classical.byContradiction λhn=>hp ⟨J,hn⟩;rw[World.cell?_of_block (q4 _ this)];exact hc
  ·exact h.hc p u J hc
 |inn i c τ q z j τ' l=>obtain⟨h1,e,t,h2,k,n⟩:=hm;obtain⟨e',t',o,y,_,A,_⟩:=h.ho i e t hb.1 h2 k;refine⟨⟨bz hb.2 h.hk,h1.2⟩,e',t',o,y,λhr=> ?_⟩;obtain⟨q1,q2,q3,q4⟩:=A (hr▸hb.2);subst q3;obtain⟨d,L,xs,B,D,F,G,H,I⟩:=n (q1.symm.trans hr);exact⟨d,L,xs,q2.trans B,D,F,G,oU H (λb hb=>q4 b (Tr.root hb)),I⟩
 |box i off=>obtain⟨h1,e,t,h2,k,n⟩:=hm;obtain⟨e',t',o,y,_,_,A⟩:=h.ho i e t hb h2 k;refine⟨h1,e',t',o,y,λhr=> ?_⟩;obtain⟨q1,q2⟩:=A hr;rw[q2];exact n q1
 |oel i c τ q z off=>obtain⟨h1,e,t,h2,k,n⟩:=hm;obtain⟨e',t',o,y,_,A,_⟩:=h.ho i e t hb.1 h2 k;refine⟨⟨bz hb.2 h.hk,h1.2⟩,e',t',o,y,λhr=> ?_⟩;obtain⟨q1,q2,q3,q4⟩:=A (hr▸hb.2);subst q3;obtain⟨d,L,b,B,D⟩:=n (q1.symm.trans hr);exact⟨d,L,b,q2.trans B,D⟩
 |suf i c τ q l=>obtain⟨h1,e,t,h2,k,n⟩:=hm;obtain⟨e',t',o,y,_,A,_⟩:=h.ho i e t hb.1 h2 k;refine⟨⟨bz hb.2 h.hk,h1.2⟩,e',t',o,y,λhr=> ?_⟩;obtain⟨q1,q2,q3,q4⟩:=A (hr▸hb.2);subst q3;obtain⟨d,B,D⟩:=n (q1.symm.trans hr);exact⟨d,q2.trans B,D⟩
 |oin i c τ q z j τ' l q' z' off=>obtain⟨h1,e,t,h2,k,n⟩:=hm;obtain⟨e',t',o,y,_,A,_⟩:=h.ho i e t hb.1 h2 k;refine⟨⟨bz hb.2 h.hk,h1.2⟩,e',t',o,y,λhr=> ?_⟩;obtain⟨q1,q2,q3,q4⟩:=A (hr▸hb.2);subst q3;obtain⟨L,xs,v0,b,O,Q,B,D,F,G,H,I⟩:=n (q1.symm.trans hr);exact⟨L,xs,v0,b,O,Q,q2.trans B,D,F,G,oU H (λb hb=>q4 b (Tr.root hb)),I⟩
def Ms.evo (h:Evo w w' X X' β β' s s' N M K){vs:List Value}{cs:List (Lf U)}(hb:∀c∈cs,c.bd N M K)(hm:Ms C w X β s vs cs):Ms C w' X' β' s' vs cs:=
 ⟨hm.1,λi v c h1 h2=>Lf.aAZ h (hb c (az h2)) (hm.2 i v c h1 h2)⟩
def Mp.evo (h:Evo w w' X X' β β' s s' N M K){v:Value}{x:Bool×List (Lf U)}(hb:∀c∈x.2,c.bd N M K)(hm:Mp C w X β s v x):Mp C w' X' β' s' v x:=by
 obtain⟨b,cs⟩:=x;cases b with
 |false=>obtain⟨c,rfl,h2⟩:=hm;exact⟨c,rfl,Lf.aAZ h (hb c (by simp)) h2⟩
 |true=>obtain⟨vs,h1,h2⟩:=hm;exact⟨vs,h1,h2.evo h hb⟩
def Sv.aAZ (h:Evo w w' X X' β β' s s' N M K){v:Value}{x:Sv U}(hb:x.bd N M K)(hm:x.mean C w X β s v):x.mean C w' X' β' s' v:=by
 cases x with
 |l x=>exact Lf.aAZ h hb hm
 |a cs=>obtain⟨vs,h1,h2⟩:=hm;exact⟨vs,h1,h2.evo h hb⟩
 |t xs=>obtain⟨vs,h1,h2,c⟩:=hm;exact⟨vs,h1,h2,λi v x a b=>(c i v x a b).evo h (hb x (az b))⟩
def Sv.aAW (h:Evo w w' X X' β β' s s' s.o.length s.ns.length s.k){v:Value}{x:Sv U}(hm:x.mean C w X β s v):x.mean C w' X' β' s' v:=Sv.aAZ h (Sv.aBE hm) hm
def Lf.aAW (h:Evo w w' X X' β β' s s' s.o.length s.ns.length s.k){v:Value}{x:Lf U}(hm:x.mean C w X β s v):x.mean C w' X' β' s' v:=Lf.aAZ h (Lf.aBE hm) hm
def Ms.go (h:Evo w w' X X' β β' s s' s.o.length s.ns.length s.k){vs:List Value}{cs:List (Lf U)}(hm:Ms C w X β s vs cs):Ms C w' X' β' s' vs cs:=Ms.evo h hm.bd hm
end
structure Bel (Y:Nat->Prop) (w w':World):Prop where
 os:w'.os=w.os
 tape:w'.tape=w.tape
 output:w'.output=w.output
 size:w.heap.size<=w'.heap.size
 block:∀b,b<w.heap.size->¬Y b->w'.heap[b]? =w.heap[b]?
theorem Bel.refl {Y:Nat->Prop}(w:World):Bel Y w w:=⟨rfl,rfl,rfl,ai _,λ_ _ _=>rfl⟩
theorem Bel.trans {Y:Nat->Prop}{a b c:World}(h:Bel Y a b)(k:Bel Y b c):Bel Y a c:=
 ⟨k.os.trans h.os,k.tape.trans h.tape,k.output.trans h.output,bz h.size k.size,λi hi d=>(k.block i (cm hi h.size) d).trans (h.block i hi d)⟩
def Bel.aBR {w w':World}(h:Ext w w'){Y:Nat->Prop}:Bel Y w w':=⟨h.os,h.tape,h.output,h.size,λb hb _=>h.block b hb⟩
def Bel.ext {w w':World}{Y:Nat->Prop}(h:Bel Y w w')(c:∀b,¬Y b):Ext w w':=⟨h.os,h.tape,h.output,h.size,λb hb=>h.block b hb (c b)⟩
structure Env (U:Uni) (g:GI) where
 X0:Nat->Prop
 Y0:Nat->Prop
 w0:World
 /--Blocks that were made ahead of their step:nobody touches them. -/
 prm:List (Nat×Obj)
 /--Moments to which one looks back:as long as nothing has turned that was there,all of it stays. -/
 fr:List (World×Nat×Nat)
 h0:∀b,X0 b->b<w0.heap.size\/∃x∈prm,x.1=b
 hY:∀b,Y0 b->b<w0.heap.size
 hXY:∀b,X0 b->¬Y0 b
 hg:∀w,Bel Y0 w0 w->g.G w
 pin:List (Sv U×Value)
variable {g:GI}
def Env.X (E:Env U g)(β:List Tr)(b:Nat):Prop:=E.X0 b\/E.Y0 b\/∃t∈β,b∈t.all
def Ob.ok (C:Cod U)(w:World)(X:Nat->Prop)(β:List Tr)(s:Mm U)(t:Tr):Ob U->Prop
 | .dead=>True
 | .box T cs c=>cs.length=c.length/\∃b vs,t.b=some b/\t.bs=[]/\w.heap[b]? =some (.cells vs.toArray T (0,0))/\Ms C w X β s vs cs
 | .tree τ d l=>0<U.K τ/\∃xs,w.ownsRow 0 τ (U.K τ) t.val l.length xs/\OwL C w X d xs (l.map (C.cel τ)).flatten t.bs
structure Hp (C:Cod U) (E:Env U g) (s:Mm U) (β:List Tr) (w:World):Prop where
 ext:Bel E.Y0 E.w0 w
 len:β.length=s.o.length
 vers:∀(i:Nat) (e:EO U),s.o[i]? =some e->e.rv<=s.k/\e.cv<=s.k
 cnt:∀(a i:Nat),s.ns[a]? =some (i,true)->(i:Int)+1<=9223372036854775807
 new:∀(i:Nat) (t:Tr) (b:Nat),β[i]? =some t->b∈t.all->(E.w0.heap.size<=b\/E.Y0 b)/\b<w.heap.size
 dist:∀(i j:Nat) (t u:Tr) (b:Nat),i≠j->β[i]? =some t->β[j]? =some u->b∈t.all->b∉u.all
 nd:∀(i:Nat) (t:Tr),β[i]? =some t->t.all.Nodup
 ok:∀(i:Nat) (t:Tr) (e:EO U),β[i]? =some t->s.o[i]? =some e->e.ob.ok C w (E.X β) β s t
 pin:∀x∈E.pin,x.1.mean C w (E.X β) β s x.2
 prm:∀x∈E.prm,E.w0.heap.size<=x.1/\w.heap[x.1]? =some x.2/\(∀f∈E.fr,f.1.heap.size<=x.1)/\∀(i:Nat) (t:Tr),β[i]? =some t->x.1∉t.all
 fr:∀f∈E.fr,f.2.1<=s.o.length/\f.2.2<=s.k/\f.1.heap.size<=w.heap.size/\((∃(j:Nat) (e:EO U),j<f.2.1/\s.o[j]? =some e/\f.2.2<e.cv)\/(Ext f.1 w/\∀(i:Nat) (t:Tr) (b:Nat),f.2.1<=i->β[i]? =some t->b∈t.all->f.1.heap.size<=b))
section
variable {E:Env U g} {s s':Mm U} {β β':List Tr} {w w':World}
def Hp.gw (H:Hp C E s β w):g.G w:=E.hg w H.ext
def Hp.aCK (H:Hp C E s β w)(b:Nat)(h:E.X β b):b<w.heap.size:=by
 rcases h with h|h|⟨t,ht,hb⟩
 ·rcases E.h0 b h with h|⟨x,c,rfl⟩
  ·exact cm h H.ext.size
  ·exact(ci.1 (H.prm x c).2.1).1
 ·exact cm (E.hY b h) H.ext.size
 ·obtain⟨i,hi⟩:=cV.1 ht;exact(H.new i t b hi hb).2
def Hp.tr (H:Hp C E s β w){i:Nat}{e:EO U}(h:s.o[i]? =some e):∃t,β[i]? =some t:=
 ⟨_,ae (by rw[H.len];exact(bc.1 h).1)⟩
def Ob.aBG {X X':Nat->Prop}(h:Evo w w' X X' β β' s s' s.o.length s.ns.length s.k){t:Tr}{x:Ob U}(c:x.ok C w X β s t)(e:∀b∈t.all,w'.heap[b]? =w.heap[b]?):x.ok C w' X' β' s' t:=by
 cases x with
 |dead=>trivial
 |box T cs j=>obtain⟨h0,b,vs,h1,h2,f,i⟩:=c;exact⟨h0,b,vs,h1,h2,by rw[e b (Tr.root h1)];exact f,i.go h⟩
 |tree τ d l=>obtain⟨h1,xs,h2,f⟩:=c;exact⟨h1,xs,oU h2 (λb hb=>e b (Tr.root hb)),f.conv h.sz h.hX h.hc (λb hb=>e b (by simp[Tr.all,hb]))⟩
def Hp.step (H:Hp C E s β w)(I D:Nat->Prop)(hk:s.k<=s'.k)(hn:∀(a i:Nat) (f:Bool),s.ns[a]? =some (i,f)->∃f',s'.ns[a]? =some (i,f'))(S:∀(a i:Nat),s'.ns[a]? =some (i,true)->(i:Int)+1<=9223372036854775807)(hlen:β'.length=s'.o.length)(hge:s.o.length<=s'.o.length)(hsz:w.heap.size<=w'.heap.size)(T:w'.os=w.os)(A:w'.tape=w.tape)(J:w'.output=w.output)
  (n:∀b,b<w.heap.size->¬D b->w'.heap[b]? =w.heap[b]?) (V:∀b,D b->∃i t,I i/\β[i]? =some t/\b∈t.all)
  (c:∀i,¬I i->i<s.o.length->s'.o[i]? =s.o[i]? /\β'[i]? =β[i]?)
  (y:∀(j:Nat) (t:Tr) (b:Nat),(I j\/s.o.length<=j)->β'[j]? =some t->b∈t.all->b<w'.heap.size/\(w.heap.size<=b\/∃i u,I i/\β[i]? =some u/\b∈u.all))
  (L:∀(i j:Nat) (t u:Tr) (b:Nat),(I i\/s.o.length<=i)->(I j\/s.o.length<=j)->i≠j->β'[i]? =some t->β'[j]? =some u->b∈t.all->b∉u.all)
  (hnd:∀(j:Nat) (t:Tr),(I j\/s.o.length<=j)->β'[j]? =some t->t.all.Nodup)
  (W:∀(j:Nat) (e:EO U),(I j\/s.o.length<=j)->s'.o[j]? =some e->e.rv<=s'.k/\e.cv<=s'.k)
  (hI:∀(i:Nat) (e e':EO U) (t t':Tr),I i->s.o[i]? =some e->s'.o[i]? =some e'->β[i]? =some t->β'[i]? =some t'->(e'.rv<=s.k->e'.rv=e.rv/\t'.val=t.val)/\s.k<e'.cv/\(e'.ob.aAY=true->e.ob.aAY=true/\t'.b=t.b))
  (hok:Evo w w' (E.X β) (E.X β') β β' s s' s.o.length s.ns.length s.k->∀(j:Nat) (t:Tr) (e:EO U),(I j\/s.o.length<=j)->β'[j]? =some t->s'.o[j]? =some e->e.ob.ok C w' (E.X β') β' s' t):
  Hp C E s' β' w'/\Evo w w' (E.X β) (E.X β') β β' s s' s.o.length s.ns.length s.k:=by
 have d:∀j,(I j\/s.o.length<=j)\/(¬I j/\j<s.o.length):=λj=>by
  by_cases h:I j
  ·exact .inl (.inl h)
  ·by_cases h2:s.o.length<=j
   ·exact .inl (.inr h2)
   ·exact .inr ⟨h,by omega⟩
 have hX:∀b,b<w.heap.size->E.X β' b->E.X β b:=by
  rintro b hb (h|h|⟨t,ht,G⟩)
  ·exact .inl h
  ·exact .inr (.inl h)
  ·obtain⟨j,r⟩:=cV.1 ht;rcases d j with hc|⟨hn,hl⟩
   ·rcases(y j t b hc r G).2 with h|⟨i,u,_,v,l⟩
    ·omega
    ·exact .inr (.inr ⟨u,az v,l⟩)
   ·rw[(c j hn hl).2] at r;exact .inr (.inr ⟨t,az r,G⟩)
 have hDX:∀b,D b->E.X β b:=λb hb=>by
  obtain⟨i,t,_,h2,O⟩:=V b hb;exact .inr (.inr ⟨t,az h2,O⟩)
 have B:∀(i:Nat) (t:Tr),¬I i->β[i]? =some t->∀b∈t.all,w'.heap[b]? =w.heap[b]? :=λi t hi ht b hb=>
  n b (H.new i t b ht hb).2 (λhd=>by
   obtain⟨j,u,r,v,l⟩:=V b hd;exact H.dist i j t u b (λe=>hi (e▸r)) ht v hb l)
 have z:Evo w w' (E.X β) (E.X β') β β' s s' s.o.length s.ns.length s.k:=by
  refine⟨hsz,hX,λp u hp hc=> ?_,hk,λa i f _ h=>hn a i f h,λi e t _ he ht=> ?_⟩
  ·have Q:=World.block_lt_of_cell? w p hc;rw[World.cell?_of_block (n p.block Q (λhd=>hp (hDX _ hd)))];exact hc
  ·have R:i<s.o.length:=(bc.1 he).1;by_cases hi:I i
   ·have h1:s'.o[i]? =some (s'.o[i]'(by omega)):=ae _;have h2:β'[i]? =some (β'[i]'(by omega)):=ae _;obtain⟨q1,q2,q3⟩:=hI i e _ t _ hi he h1 ht h2;exact⟨_,_,h1,h2,q1,λhc=>absurd hc (by omega),q3⟩
   ·obtain⟨h1,h2⟩:=c i hi R;exact⟨e,t,h1.trans he,h2.trans ht,λ_=>⟨rfl,rfl⟩,λ_=>⟨rfl,rfl,rfl,B i t hi ht⟩,λh=>⟨h,rfl⟩⟩
 refine⟨⟨?_,hlen,?_,S,?_,?_,?_,?_,λx Z=>Sv.aAW z (H.pin x Z),λx Z=> ?_,λf hf=> ?_⟩,z⟩
 ·refine⟨T.trans H.ext.os,A.trans H.ext.tape,J.trans H.ext.output,bz H.ext.size hsz,λb hb hy=> ?_⟩;rw[n b (cm hb H.ext.size) (λhd=>by
   obtain⟨i,t,_,h2,O⟩:=V b hd;rcases(H.new i t b h2 O).1 with h|h
   ·omega
   ·exact hy h)]
  exact H.ext.block b hb hy
 ·intro j e he;rcases d j with hc|⟨hn,hl⟩
  ·exact W j e hc he
  ·rw[(c j hn hl).1] at he;have:=H.vers j e he;omega
 ·intro j t b ht hb;rcases d j with hc|⟨hn,hl⟩
  ·obtain⟨h1,h2⟩:=y j t b hc ht hb;refine⟨?_,h1⟩;rcases h2 with h|⟨i,u,_,v,l⟩
   ·have:=H.ext.size;exact .inl (by omega)
   ·exact(H.new i u b v l).1
  ·rw[(c j hn hl).2] at ht;have:=H.new j t b ht hb;exact⟨this.1,by omega⟩
 ·intro i j t u b F ht v hb l;have aux:∀(i j:Nat) (t u:Tr),i≠j->(I i\/s.o.length<=i)->(¬I j/\j<s.o.length)->β'[i]? =some t->β[j]? =some u->b∈t.all->b∈u.all->False:=by
   intro i j t u F hi r ht v hb l;rcases(y i t b hi ht hb).2 with h|⟨q,x,hq,Z,hxb⟩
   ·have:=(H.new j u b v l).2;omega
   ·exact H.dist q j x u b (λe=>r.1 (e▸hq)) Z v hxb l
  rcases d i with hi|hi<;>rcases d j with r|r
  ·exact L i j t u b hi r F ht v hb l
  ·rw[(c j r.1 r.2).2] at v;exact aux i j t u F hi r ht v hb l
  ·rw[(c i hi.1 hi.2).2] at ht;exact aux j i u t (Ne.symm F) r hi v ht l hb
  ·rw[(c i hi.1 hi.2).2] at ht;rw[(c j r.1 r.2).2] at v;exact H.dist i j t u b F ht v hb l
 ·intro j t ht;rcases d j with hc|⟨hn,hl⟩
  ·exact hnd j t hc ht
  ·rw[(c j hn hl).2] at ht;exact H.nd j t ht
 ·intro j t e ht he;rcases d j with hc|⟨hn,hl⟩
  ·exact hok z j t e hc ht he
  ·obtain⟨h1,h2⟩:=c j hn hl;rw[h1] at he;rw[h2] at ht;exact Ob.aBG z (H.ok j t e ht he) (B j t hn ht)
 ·obtain⟨h1,h2,O,h4⟩:=H.prm x Z;have Q:x.1<w.heap.size:=(ci.1 h2).1;refine⟨h1,(n x.1 Q λhd=> ?_).trans h2,O,λj t ht hb=> ?_⟩
  ·obtain⟨i,u,_,v,l⟩:=V _ hd;exact h4 i u v l
  ·rcases d j with hc|⟨hn,hl⟩
   ·rcases(y j t _ hc ht hb).2 with h|⟨i,u,_,v,l⟩
    ·omega
    ·exact h4 i u v l
   ·rw[(c j hn hl).2] at ht;exact h4 j t ht hb
 ·obtain⟨h1,h2,h0,O⟩:=H.fr f hf;refine⟨bz h1 hge,bz h2 hk,bz h0 hsz,?_⟩;have turned:∀i,I i->i<f.2.1->∃(j:Nat) (e:EO U),j<f.2.1/\s'.o[j]? =some e/\f.2.2<e.cv:=λi hi hl=>by
   have R:i<s.o.length:=cm hl h1;have g1:s.o[i]? =some s.o[i]:=ae R;have g2:s'.o[i]? =some (s'.o[i]'(by omega)):=ae _;obtain⟨t,g3⟩:=H.tr g1;have g4:β'[i]? =some (β'[i]'(by omega)):=ae _;have:=(hI i _ _ t _ hi g1 g2 g3 g4).2.1;exact⟨i,_,hl,g2,by omega⟩
  rcases O with⟨j,e,q1,q2,q3⟩|⟨q1,q2⟩
  ·by_cases r:I j
   ·exact .inl (turned j r q1)
   ·exact .inl ⟨j,e,q1,by rw[(c j r (lt_of_some q2)).1];exact q2,q3⟩
  ·by_cases hex:∃i,I i/\i<f.2.1
   ·obtain⟨i,hi,hl⟩:=hex;exact .inl (turned i hi hl)
   ·have hno:∀i,I i->f.2.1<=i:=λi hi=>Nat.le_of_not_lt λhl=>hex ⟨i,hi,hl⟩;refine .inr ⟨⟨T.trans q1.os,A.trans q1.tape,J.trans q1.output,bz q1.size hsz,λb hb=> ?_⟩,λj t b r ht hb=> ?_⟩
    ·rw[n b (cm hb q1.size) (λhd=>by
      obtain⟨i,t,hi,ht,G⟩:=V b hd;have:=q2 i t b (hno i hi) ht G;omega)]
     exact q1.block b hb
    ·rcases d j with hc|⟨hn,hl⟩
     ·rcases(y j t b hc ht hb).2 with h|⟨i,u,hi,v,l⟩
      ·exact bz q1.size h
      ·exact q2 i u b (hno i hi) v l
     ·rw[(c j hn hl).2] at ht;exact q2 j t b r ht hb
end
end Go.EV
namespace Go.EV
open Go.RowKit Go.VK
noncomputable section
def nth {α:Type}(l:List α):Nat->Option α:=List.rec (motive:=λ_=>Nat->Option α) (λ_=>none) (λx _ b n=>Nat.rec (motive:=λ_=>Option α) (some x) (λm _=>b m) n) l
def upd {α:Type}(l:List α):Nat->α->List α:=List.rec (motive:=λ_=>Nat->α->List α) (λ_ _=>[]) (λx t b n y=>Nat.rec (motive:=λ_=>List α) (y::t) (λm _=>x::b m y) n) l
def drp {α:Type}(l:List α):Nat->List α:=List.rec (motive:=λ_=>Nat->List α) (λ_=>[]) (λx t b n=>Nat.rec (motive:=λ_=>List α) (x::t) (λm _=>b m) n) l
def tk {α:Type}(l:List α):Nat->List α:=List.rec (motive:=λ_=>Nat->List α) (λ_=>[]) (λx _ b n=>Nat.rec (motive:=λ_=>List α) [] (λm _=>x::b m) n) l
def len {α:Type}(l:List α):Nat:=List.rec (motive:=λ_=>Nat) 0 (λ_ _ b=>Nat.succ b) l
def kE {α:Type}(l:List (Nat×α))(n:Nat):Option α:=List.rec (motive:=λ_=>Option α) none (λx _ b=>cond (Nat.beq x.1 n) (some x.2) b) l
inductive Kz where
 |int (k:IntKind)
 |bool
 |str
 |nil
def Kz.v:Kz->V
 | .int k=> .int k 0
 | .bool=> .bool false
 | .str=> .str ⟨#[]⟩
 | .nil=> .nil
inductive UT where
 |int (k:IntKind)
 |bool
 |str
 |sl (e ek eb:Nat)
 |st (fs:List (Nat×Nat×Nat))
structure TInfo where
 u:UT
 k:Nat
 z:List Kz
inductive Kd where
 |int (k:IntKind)
 |bool
 |str
 |sl (τ:Nat)
 |st (T:Nat)
variable {U:Uni}
def Kz.lf:Kz->Lf U
 | .int k=> .int k (0:Int)
 | .bool=> .bool false
 | .str=> .str (⟨#[]⟩:ByteArray)
 | .nil=> .nil
def Kd.ty (U:Uni):Kd->Type
 | .int _=>Int
 | .bool=>Bool
 | .str=>ByteArray
 | .sl τ=>List (U.El τ)
 | .st T=>U.El T
def rU (U:Uni):List Kd->Type
 |[]=>Unit
 |[k]=>k.ty U
 |k::b::ks=>k.ty U×rU U (b::ks)
structure Sum (U:Uni) where
 ar:List Kd
 rs:List Kd
 fr:Bool
 wt:Bool
 m:rU U ar->Option (rU U rs)
def slq (τ τ':Nat)(l:List (U.El τ')):Option (List (U.El τ)):=if h:τ'=τ then some (h▸l) else none
def okv (m:Mm U)(i c:Nat):Bool:=match nth m.o i with
 |some e=>Nat.beq e.cv c
 |none=>false
def rsv (ns:List (Nat×Bool)):Lf U->Lf U
 | .nat a=>match nth ns a with|some (i,_)=> .int .i64 (i:Int)|none=> .any
 | .lt a m=>match nth ns a with|some (i,_)=> .bool (decide ((i:Int)<m))|none=> .any
 |x=>x
def tY (m:Mm U):Lf U->Option (Lf U)
 | .int k n=>some (.int k n)
 | .bool b=>some (.bool b)
 | .str s=>some (.str s)
 | .sl τ l=>some (.sl τ l)
 | .nat a=>match nth m.ns a with|some (i,_)=>some (.int .i64 (i:Int))|none=>none
 | .lt a n=>match nth m.ns a with|some (i,_)=>some (.bool (decide ((i:Int)<n)))|none=>none
 | .own i r=>match nth m.o i with
  |some ⟨.tree τ _ l,rv,_⟩=>bif Nat.beq rv r then some (.sl τ l) else none
  |_=>none
 | .bor i c τ l=>bif okv m i c then some (.sl τ l) else none
 | .inn i c _ _ _ _ τ' l=>bif okv m i c then some (.sl τ' l) else none
 |_=>none
def rdn (m:Mm U)(kd:Kd):Lf U->Option (Lf U)
 | .nil=>match kd with| .sl τ=>some (.sl τ [])|_=>none
 |x=>tY m x
def rds (m:Mm U):List Kd->List (Lf U)->Option (List (Lf U))
 |[],[]=>some []
 |kd::ks,x::xs=>match rdn m kd x with
  |some y=>match rds m ks xs with
   |some ys=>some (y::ys)
   |none=>none
  |none=>none
 |_,_=>none
def aOt:(kd:Kd)->Lf U->Option (kd.ty U)
 | .int k, .int c n=>if c=k then some n else none
 | .bool, .bool b=>some b
 | .str, .str s=>some s
 | .sl τ, .sl τ' l=>slq τ τ' l
 |_,_=>none
def Cur (U:Uni)(β:Type):List Kd->Type
 |[]=>β
 |k::ks=>k.ty U->Cur U β ks
def mI {β:Type}:(ks:List Kd)->Cur U β ks->List (Lf U)->Option β
 |[],x,[]=>some x
 |k::ks,f,c::cs=>match aOt k c with
  |some a=>mI ks (f a) cs
  |none=>none
 |_,_,_=>none
structure Lay (U:Uni) where
 C:Cod U
 kd:Nat->List Kd
 bt:Nat
 be:Int->U.El bt
 bi:U.El bt->Int
 hb:∀x,C.cel bt x=[.int .u8 (bi x)]
 hbe:∀n,bi (be n)=n
def bIx (ns:List Int):ByteArray:=ns.foldl (λr n=>r.push (UInt8.ofNat n.toNat)) ByteArray.empty
variable (Y:Lay U)
def Za (m:Mm U):(kd:Kd)->Sv U->Option (kd.ty U)
 | .st T, .a cs=>match rds m (Y.kd T) cs with
  |some ds=>Y.C.bld T ds
  |none=>none
 |kd, .l x=>match rdn m kd x with
  |some y=>aOt kd y
  |none=>none
 |_,_=>none
def nR (m:Mm U):(ks:List Kd)->List (Sv U)->Option (rU U ks)
 |[],[]=>some ()
 |[k],[x]=>Za Y m k x
 |k::c::ks,x::xs=>match Za Y m k x with
  |some a=>match nR m (c::ks) xs with
   |some b=>some (a,b)
   |none=>none
  |none=>none
 |_,_=>none
def bT4:(kd:Kd)->kd.ty U->Lf U
 | .int k,n=> .int k n
 | .bool,b=> .bool b
 | .str,s=> .str s
 | .sl τ,l=> .sl τ l
 | .st _,_=> .any
def aBx:(kd:Kd)->kd.ty U->Bool×List (Lf U)
 | .st T,x=>(true,Y.C.cel T x)
 | .int k,n=>(false,[.int k n])
 | .bool,b=>(false,[.bool b])
 | .str,s=>(false,[.str s])
 | .sl τ,l=>(false,[.sl τ l])
def cO:(ks:List Kd)->rU U ks->List (Bool×List (Lf U))
 |[],_=>[]
 |[k],x=>[aBx Y k x]
 |k::b::ks,x=>aBx Y k x.1::cO (b::ks) x.2
def bD4:Bool×List (Lf U)->Sv U
 |(true,cs)=> .a cs
 |(false,[x])=> .l x
 |_=> .l .any
def xR:List (Bool×List (Lf U))->Sv U
 |[x]=>bD4 x
 |xs=> .t xs
def bAu (k:IntKind)(n:Int):Bool:=decide (k.min<=n)&&decide (n<=k.max)
def bAv:Value->Sv U
 | .int k n=>bif bAu k n then .l (.int k n) else .l .any
 | .bool b=> .l (.bool b)
 | .string s=>bif Nat.ble (len s.data.toList) 1000 then .l (.str s) else .l .any
 | .slice none 0 0=> .l .nil
 |_=> .l .any
def wI (s:St U):Operand->Sv U
 | .tmp n=>match nth s.t n with|some x=>x|none=> .l .any
 | .const v=>bAv v
 |_=> .l .any
def fV (s:St U)(x:Operand):Sv U:=match wI s x with
 | .l y=> .l (rsv s.m.ns y)
 |y=>y
variable (TI:List (Nat×TInfo))
def bP8 (b:BinOp)(k:IntKind)(m n:Int):Option (Lf U):=match b with
 | .add=>some (.int k (k.wrap (m+n)))
 | .sub=>some (.int k (k.wrap (m-n)))
 | .mul=>some (.int k (k.wrap (m*n)))
 | .lss=>some (.bool (decide (m<n)))
 | .leq=>some (.bool (decide (m<=n)))
 | .gtr=>some (.bool (decide (m>n)))
 | .geq=>some (.bool (decide (m>=n)))
 | .eql=>some (.bool (m==n))
 | .neq=>some (.bool (m !=n))
 | .and=>some (.int k (oQ k m n))
 | .or=>some (.int k (orI k m n))
 | .xor=>some (.int k (bAt k m n))
 |_=>none
def bP9 (b:BinOp)(m n:ByteArray):Option (Lf U):=match b with
 | .eql=>some (.bool (m.toList==n.toList))
 | .neq=>some (.bool (!(m.toList==n.toList)))
 |_=>none
def eqQ:Nat->List (Nat×Nat×Nat)->List (Lf U)->List (Lf U)->Option Bool
 |_,[],[],[]=>some true
 |i,(off,ft,_)::fs,c::cs,d::ds=>bif Nat.beq off i then(match eqQ (Nat.succ i) fs cs ds with
  |some r=>(match kE TI ft,c,d with
   |some ⟨.int _,_,_⟩, .int k m, .int b n=>if k=b then some (m==n&&r) else none
   |some ⟨.bool,_,_⟩, .bool m, .bool n=>some (m==n&&r)
   |some ⟨.str,_,_⟩, .str m, .str n=>some (m.toList==n.toList&&r)
   |_,_,_=>none)
  |none=>none) else none
 |_,_,_,_=>none
def cut (i:TInfo)(cs:List (Lf U))(off:Nat):Option (Sv U):=match i.u with
 | .st _=>let ds:=tk (drp cs off) i.k
  bif Nat.beq (len ds) i.k then some (.a ds) else none
 |_=>match nth cs off with
  |some x=>some (.l x)
  |none=>none
def eqV (i:TInfo):Sv U->Sv U->Option Bool
 | .l (.int k m), .l (.int b n)=>match i.u with
  | .int _=>if k=b then some (m==n) else none
  |_=>none
 | .l (.bool m), .l (.bool n)=>match i.u with
  | .bool=>some (m==n)
  |_=>none
 | .l (.str m), .l (.str n)=>match i.u with
  | .str=>some (m.toList==n.toList)
  |_=>none
 | .a xs, .a ys=>match i.u with
  | .st (g::c)=>eqQ TI 0 (g::c) xs ys
  |_=>none
 |_,_=>none
def eqN:List (Nat×Nat×Nat)->List (Lf U)->List (Lf U)->Option Bool
 |[],_,_=>some true
 |(off,ft,_)::fs,cs,ds=>match kE TI ft with
  |some i=>match cut i cs off with
   |some x=>match cut i ds off with
    |some y=>match eqV TI i x y with
     |some a=>match eqN fs cs ds with
      |some r=>some (a&&r)
      |none=>none
     |none=>none
    |none=>none
   |none=>none
  |none=>none
def eqB (fs:List (Nat×Nat×Nat))(cs ds:List (Lf U)):Option Bool:=match eqQ TI 0 fs cs ds with
 |some r=>some r
 |none=>eqN TI fs cs ds
def bin (b:BinOp)(t:TypeId):Sv U->Sv U->Option (Lf U)
 | .l (.int k m), .l (.int c n)=>if k=c then bP8 b k m n else none
 | .l (.str m), .l (.str n)=>bP9 b m n
 | .l (.bool m), .l (.bool n)=>match kE TI t with
  |some ⟨.bool,_,_⟩=>match b with
   | .eql=>some (.bool (m==n))
   | .neq=>some (.bool (!(m==n)))
   |_=>none
  |_=>none
 | .a cs, .a ds=>match kE TI t with
  |some ⟨.st (f::fs),_,_⟩=>match eqB TI (f::fs) cs ds with
   |some r=>(match b with
    | .eql=>some (.bool r)
    | .neq=>some (.bool (!r))
    |_=>none)
   |none=>none
  |_=>none
 |_,_=>none
def aLz (i c τ:Nat)(q:Int)(z:U.El τ):Nat->List (Lf U)->List (Lf U)
 |_,[]=>[]
 |j, .sl τ' l::xs=> .inn i c τ q z j τ' l::aLz i c τ q z (Nat.succ j) xs
 |j,x::xs=>x::aLz i c τ q z (Nat.succ j) xs
def aL0 (i c:Nat):List (Lf U)->List (Lf U)
 |[]=>[]
 | .sl τ l::xs=> .bor i c τ l::aL0 i c xs
 |x::xs=>x::aL0 i c xs
def fld (fs:List (Nat×Nat×Nat))(f:Nat):Option (Nat×Nat×Nat):=nth fs f
def vX (m:Mm U)(f:Nat):Lf U->Option (Lf U)
 | .box i off=>match nth m.o i with
  |some ⟨.box ..,_,_⟩=>some (.box i (off+f))
  |_=>none
 | .ptr τ z off=>some (.ptr τ z (off+f))
 | .oel i c τ q z off=>bif okv m i c then some (.oel i c τ q z (off+f)) else none
 |_=>none
def brA {α:Type}(q:Int)(F:Nat->Option α)(n:Nat):Option α:=Nat.rec (motive:=λ_=>Option α) none (λj b=>bif decide (q=(j:Int)) then F j else b) n
def load (s:St U)(i:TInfo):Lf U->Option (Sv U)
 | .box b off=>match nth s.m.o b with
  |some ⟨.box _ cs _,_,_⟩=>cut i cs off
  |_=>none
 | .ptr τ z off=>cut i (Y.C.cel τ z) off
 | .oel b c τ q z off=>bif okv s.m b c then cut i (aLz b c τ q z 0 (Y.C.cel τ z)) off else none
 | .oin b c _ _ _ _ τ' _ _ z' off=>bif okv s.m b c then cut i (aL0 b c (Y.C.cel τ' z')) off else none
 |_=>none
def lenOf (m:Mm U):Lf U->Option (Lf U)
 | .str z=>some (.int .i64 (z.size:Int))
 | .nil=>some (.int .i64 (0:Int))
 |x=>match tY m x with
  |some (.sl _ l)=>some (.int .i64 (l.length:Int))
  |_=>none
def spl {α:Type}(l:List α)(off:Nat)(vs:List α):List α:=List.rec (motive:=λ_=>Nat->List α) (λ_=>[]) (λx t b n=>Nat.rec (motive:=λ_=>List α) (vs++drp (x::t) (len vs)) (λm _=>x::b m) n) l off
def parts:Sv U->Option (List (Lf U))
 | .l x=>some [x]
 | .a cs=>some cs
 |_=>none
def bLw:Lf U->Bool
 | .und=>false
 | .any=>false
 |_=>true
def Hf:List (Lf U)->Bool
 |[]=>true
 |x::xs=>bLw x&&Hf xs
def bD5 (s:St U)(fs:List (Nat×Nat×Nat)):List (Nat×Operand)->List (Lf U)->Option (List (Lf U))
 |[],cs=>some cs
 |(f,x)::xs,cs=>match fld fs f,parts (wI s x) with
  |some (off,_,n),some ps=>bif Nat.beq (len ps) n&&Nat.ble (off+n) (len cs)&&Hf ps then bD5 s fs xs (spl cs off ps) else none
  |_,_=>none
def pur (s:St U)(op:Op):Option (Sv U):=match op with
 | .move x=>some (wI s x)
 | .assign x=>some (wI s x)
 | .pick c x y=>match fV s c with
  | .l (.bool b)=>bif b then some (wI s x) else some (wI s y)
  |_=>none
 | .nilCheck x=>match fV s x with
  | .l (.box b off)=>match nth s.m.o b with
   |some ⟨.box ..,_,_⟩=>some (.l (.box b off))
   |_=>none
  |_=>none
 | .unOp u _ x=>match u,fV s x with
  | .not, .l (.bool b)=>some (.l (.bool (!b)))
  | .neg, .l (.int k n)=>some (.l (.int k (k.wrap (0-n))))
  |_,_=>none
 | .convert a b x=>match kE TI a,kE TI b,fV s x with
  |some ⟨.int _,_,_⟩,some ⟨.int j,_,_⟩, .l (.int _ n)=>some (.l (.int j (j.wrap n)))
  |_,_,_=>none
 | .fieldAddr t x f=>match kE TI t,fV s x with
  |some ⟨.st fs,_,_⟩, .l p=>match fld fs f with
   |some (off,_,_)=>match vX s.m off p with
    |some z=>some (.l z)
    |none=>none
   |none=>none
  |_,_=>none
 | .load t x=>match kE TI t,fV s x with
  |some i, .l p=>load Y s i p
  |_,_=>none
 | .field t x f=>match kE TI t,fV s x with
  |some ⟨.st fs,_,_⟩, .a cs=>match fld fs f with
   |some (off,ft,_)=>match kE TI ft with
    |some i=>cut i cs off
    |none=>none
   |none=>none
  |_,_=>none
 | .build t ps=>match kE TI t with
  |some ⟨.st fs,_,z⟩=>match bD5 s fs ps.toList (z.map Kz.lf) with
   |some cs=>some (.a cs)
   |none=>none
  |_=>none
 | .extract x i=>match fV s x with
  | .t xs=>match nth xs i with
   |some c=>some (bD4 c)
   |none=>none
  |_=>none
 | .call ⟨.builtin .len,d,ats⟩=>match d.toList,ats.toList with
  |[x],[t]=>match kE TI t,fV s x with
   |some ⟨.sl ..,_,_⟩, .l y=>match y with
    | .str _=>none
    |y=>match lenOf s.m y with
     |some z=>some (.l z)
     |none=>none
   |some ⟨.str,_,_⟩, .l (.str z)=>some (.l (.int .i64 (z.size:Int)))
   |_,_=>none
  |_,_=>none
 | .call ⟨.builtin .min,d,_⟩=>match d.toList with
  |[x,y]=>match fV s x,fV s y with
   | .l (.int k a), .l (.int e b)=>if k=e then some (.l (.int k (if b<a then b else a))) else none
   |_,_=>none
  |_=>none
 | .call ⟨.builtin .max,d,_⟩=>match d.toList with
  |[x,y]=>match fV s x,fV s y with
   | .l (.int k a), .l (.int e b)=>if k=e then some (.l (.int k (if b>a then b else a))) else none
   |_,_=>none
  |_=>none
 |_=>none
variable {α:Type}
def aT8 (f:(τ:Nat)->List (U.El τ)->List (U.El τ))(o:List (EO U)):Lf U->Option (Lf U)
 | .sl τ l=>some (.sl τ (f τ l))
 | .own i r=>match nth o i with
  |some ⟨.tree τ _ l,rv,cv⟩=>bif Nat.beq rv r then some (.bor i cv τ (f τ l)) else none
  |_=>none
 | .bor i c τ l=>some (.bor i c τ (f τ l))
 | .inn i c _ _ _ _ τ' l=>some (.bor i c τ' (f τ' l))
 |_=>none
def Lr (e k τ:Nat):Bool:=Nat.beq e τ&&Nat.beq (U.K τ) k
def xS:Sv U->Option Int
 | .l (.int _ n)=>some n
 |_=>none
def Zb (s:St U)(op:Op)(K:Sv U->Option α):Option α:=match op with
 | .binOp b t x y u=>match fV s x,fV s y with
  | .l (.int k m), .l (.int v n)=>match b with
   | .lss=>if k=v then(match wI s x with
    | .l (.nat a)=>K (.l (.lt a n))
    |_=>K (.l (.bool (decide (m<n))))) else none
   | .quo=>if k=v then gd (n≠0) (K (.l (.int k (k.wrap (m.tdiv n))))) else none
   | .rem=>if k=v then gd (n≠0) (K (.l (.int k (m.tmod n)))) else none
   | .shl=>gd (0<=n) (K (.l (.int k (aBu k m n))))
   | .shr=>gd (0<=n) (K (.l (.int k (Gt k m n))))
   |b=>if k=v then(match bP8 b k m n with|some z=>K (.l z)|none=>none) else none
  | .l (.str m), .l (.str n)=>match b with
   | .add=>gd (m.size+n.size<=9223372036854775807) (K (.l (.str (m++n))))
   |b=>match bP9 b m n with|some z=>K (.l z)|none=>none
  |x,y=>match bin TI b t x y with
   |some z=>K (.l z)
   |none=>none
 | .indexAddr t x y=>match kE TI t,fV s x,fV s y with
  |some ⟨.sl e ek _,_,_⟩, .l p, .l (.int _ q)=>match p with
   | .sl τ l=>bif Lr (U:=U) e ek τ then bd (bA l q) λz=>K (.l (.ptr τ z 0)) else none
   | .own i r=>match nth s.m.o i with
    |some ⟨.tree τ _ l,rv,cv⟩=>bif Nat.beq rv r&&Lr (U:=U) e ek τ then bd (bA l q) λz=>K (.l (.oel i cv τ q z 0)) else none
    |_=>none
   | .inn i c τ q0 z j τ' l=>match nth s.m.o i with
    |some ⟨.tree _ d _,_,cv⟩=>bif d&&(Nat.beq cv c&&Lr (U:=U) e ek τ') then bd (bA l q) λz'=>K (.l (.oin i c τ q0 z j τ' l q z' 0)) else none
    |_=>none
   |_=>none
  |some ⟨.st [],k,_⟩, .l (.box b off), .l (.int _ q)=>brA q (λj=>match vX s.m j (.box b off) with
   |some z=>K (.l z)
   |none=>none) k
  |_,_,_=>none
 | .index t x y=>match kE TI t,fV s x,fV s y with
  |some ⟨.str,_,_⟩, .l (.str z), .l (.int _ q)=>bd (bA (bW z) q) λc=>K (.l (.int .u8 c))
  |_,_,_=>none
 | .slice t x A hi none=>match kE TI t,fV s x with
  |some ⟨.str,_,_⟩, .l (.str z)=>match A,hi with
   |none,some h=>match xS (fV s h) with
    |some n=>gd (xQ z 0 n) (K (.l (.str (z.extract 0 n.toNat))))
    |none=>none
   |some l,none=>match xS (fV s l) with
    |some m=>gd (xQ z m z.size) (K (.l (.str (z.extract m.toNat z.size))))
    |none=>none
   |some l,some h=>match xS (fV s l),xS (fV s h) with
    |some m,some n=>gd (xQ z m n) (K (.l (.str (z.extract m.toNat n.toNat))))
    |_,_=>none
   |none,none=>none
  |some ⟨.sl e ek _,_,_⟩, .l p=>match tY s.m p with
   |some (.sl τ l)=>bif Lr (U:=U) e ek τ then(match A,hi with
    |none,none=>match aT8 (λ_ l=>l) s.m.o p with
     |some f=>K (.l f)
     |none=>none
    |none,some h=>match xS (fV s h),aT8 (λ_ l=>l.take (match xS (fV s h) with|some n=>n.toNat|none=>0)) s.m.o p with
     |some n,some f=>gd (lU l n) (K (.l f))
     |_,_=>none
    |some b,none=>match xS (fV s b),aT8 (λ_ l=>l.drop (match xS (fV s b) with|some n=>n.toNat|none=>0)) s.m.o p with
     |some n,some f=>gd (lU l n) (K (.l f))
     |_,_=>none
    |some b,some h=>match xS (fV s b),xS (fV s h),aT8 (λ_ l=>(l.take (match xS (fV s h) with|some n=>n.toNat|none=>0)).drop (match xS (fV s b) with|some n=>n.toNat|none=>0)) s.m.o p with
     |some n,some m,some f=>gd (0<=n/\n<=m/\lU l m) (K (.l f))
     |_,_,_=>none) else none
   |_=>none
  |_,_=>none
 | .convert B D x=>match kE TI B,kE TI D,fV s x with
  |some ⟨.sl e _ _,_,_⟩,some ⟨.str,_,_⟩, .l p=>match tY s.m p,kE TI e with
   |some (.sl τ l),some ⟨.int .u8,_,_⟩=>match slq Y.bt τ l with
    |some l=>bif Nat.beq e τ then gd (l.length<=68719476736) (K (.l (.str (bIx (l.map Y.bi))))) else none
    |none=>none
   |_,_=>none
  |_,_,_=>match pur Y TI s (.convert B D x) with
   |some x=>K x
   |none=>none
 |op=>match pur Y TI s op with
  |some x=>K x
  |none=>none
end
end Go.EV
namespace Go.EV
open Go.RowKit Go.VK
noncomputable section
variable {U:Uni} (Y:Lay U) (TI:List (Nat×TInfo)) (FZ:List (Nat×Sum U)) {α:Type}
def put (s:St U)(d:Option Nat)(x:Sv U):St U:=match d with
 |some n=>⟨upd s.t n x,s.m,s.fr⟩
 |none=>s
def psh (s:St U)(b:Ob U):St U:=⟨s.t,⟨s.m.o++[⟨b,s.m.k,s.m.k⟩],s.m.k,s.m.ns⟩,s.fr⟩
def trn (s:St U)(i:Nat)(b:Ob U)(rv:Nat):St U:=⟨s.t,⟨upd s.m.o i ⟨b,rv,Nat.succ s.m.k⟩,Nat.succ s.m.k,s.m.ns⟩,s.fr⟩
def Zc (k:Nat)(ids:List Nat)(o:List (EO U)):List (EO U):=List.rec (motive:=λ_=>List (EO U)) o (λi _ b=>upd b i ⟨.dead,k,k⟩) ids
def Ps (i:Nat)(l:List Nat):Bool:=List.rec (motive:=λ_=>Bool) false (λx _ b=>cond (Nat.beq x i) true b) l
def dist (l:List Nat):Bool:=List.rec (motive:=λ_=>Bool) true (λx xs b=>cond (Ps x xs) false b) l
def bAw (m:Mm U)(kd:Kd):Lf U->Option (Lf U×List Nat×Bool)
 | .nil=>match kd with| .sl τ=>some (.sl τ [],[],true)|_=>none
 | .sl τ l=>some (.sl τ l,[],false)
 | .own i r=>match nth m.o i with
  |some ⟨.tree τ d l,rv,_⟩=>bif Nat.beq rv r then some (.sl τ l,[i],d) else none
  |_=>none
 | .bor .. =>none
 | .inn .. =>none
 | .suf i c τ q l=>match nth m.o i with
  |some ⟨.tree _ _ _,_,cv⟩=>bif Nat.beq cv c then some (.sl τ (l.drop q.toNat),[i],false) else none
  |_=>none
 |x=>match tY m x with
  |some y=>some (y,[],true)
  |none=>none
def aGo (m:Mm U):List Kd->List (Lf U)->Option (List (Lf U)×List Nat×Bool)
 |[],[]=>some ([],[],true)
 |kd::ks,x::xs=>match bAw m kd x with
  |some (y,i,d)=>match aGo m ks xs with
   |some (ys,is,ds)=>some (y::ys,i++is,d&&ds)
   |none=>none
  |none=>none
 |_,_=>none
def bQb (s:St U)(e:Nat)(x:Sv U):Option (U.El e×List Nat×Bool):=match parts x with
 |some cs=>match aGo s.m (Y.kd e) cs with
  |some (ds,ids,d)=>match Y.C.bld e ds with
   |some z=>some (z,ids,d)
   |none=>none
  |none=>none
 |none=>none
def Rt (s:St U)(e:Nat):Nat->List (Nat×Operand)->Option (List (U.El e)×List Nat×Bool)
 |_,[]=>some ([],[],true)
 |n,(i,x)::ps=>bif Nat.beq i n then(match bQb Y s e (fV s x) with
  |some (z,ids,d)=>match Rt s e (Nat.succ n) ps with
   |some (b,c,ds)=>some (z::b,ids++c,d&&ds)
   |none=>none
  |none=>none) else none
def Kd.aDY:Kd->Bool
 | .sl _=>true
 |_=>false
def aOu (l:List Kd):Bool:=List.rec (motive:=λ_=>Bool) false (λx _ b=>cond x.aDY true b) l
def aOv (τ:Nat):Bool:=cond (aOu (Y.kd τ)) false true
def flatK:Kd->Bool
 | .sl _=>false
 | .st T=>aOv Y T
 |_=>true
def zR (l:List Kd):Bool:=List.rec (motive:=λ_=>Bool) true (λx _ b=>cond (flatK Y x) b false) l
def pI:Lf U->Bool
 | .own .. =>false
 | .bor .. =>false
 | .inn .. =>false
 |_=>true
def Ls:List (Lf U)->Bool
 |[]=>true
 |x::xs=>pI x&&Ls xs
def aOw:Sv U->Bool
 | .l x=>pI x
 | .a cs=>Ls cs
 | .t _=>false
def nO:List (Sv U)->Bool
 |[]=>true
 |x::xs=>aOw x&&nO xs
def lsV:Sv U->List (Lf U)
 | .l x=>[x]
 | .a cs=>cs
 | .t _=>[]
def bLx:List (Lf U)->Option Nat
 |[]=>none
 | .own i _::_=>some i
 |_::xs=>bLx xs
def bGr:List (Sv U)->Option Nat
 |[]=>none
 |x::xs=>match bLx (lsV x) with
  |some i=>some i
  |none=>bGr xs
def aOx (i:Nat):List (Lf U)->Bool
 |[]=>true
 | .own j _::xs=>Nat.beq i j&&aOx i xs
 |x::xs=>pI x&&aOx i xs
def bAx (i:Nat):List (Sv U)->Bool
 |[]=>true
 |x::xs=>aOx i (lsV x)&&bAx i xs
def bAy (m:Mm U)(xs:List (Sv U)):Option (Nat×Nat):=match bGr xs with
 |some i=>bif bAx i xs then(match nth m.o i with
  |some e=>some (i,e.cv)
  |none=>none) else none
 |none=>none
def aUa (i c:Nat):List (Lf U)->List (Lf U)
 |[]=>[]
 | .sl τ l::xs=> .bor i c τ l::aUa i c xs
 |x::xs=>x::aUa i c xs
def Nu (i c:Nat):List (Bool×List (Lf U))->List (Bool×List (Lf U))
 |[]=>[]
 |(b,cs)::xs=>(b,aUa i c cs)::Nu i c xs
def aOy:Operand->Operand->Bool
 | .tmp i, .tmp j=>Nat.beq i j
 | .const (.int k m), .const (.int b n)=>decide (k=b)&&decide (m=n)
 |_,_=>false
def tZ (k:Nat):Nat->List (Lf U)->List (Lf U)×List (EO U)
 |_,[]=>([],[])
 |n, .sl τ l::xs=>let r:=tZ k (Nat.succ n) xs
  (.own n k::r.1,⟨.tree τ true l,k,k⟩::r.2)
 |n,x::xs=>let r:=tZ k n xs
  (x::r.1,r.2)
def kV (k:Nat):Nat->List (Bool×List (Lf U))->List (Bool×List (Lf U))×List (EO U)
 |_,[]=>([],[])
 |n,(b,cs)::xs=>let r:=tZ k n cs
  let q:=kV k (n+len r.2) xs
  ((b,r.1)::q.1,r.2++q.2)
def apD (s:St U)(e:Nat):Lf U->Option (Nat×Bool×List (U.El e)×St U)
 | .nil=>some (len s.m.o,true,[],psh s (.tree e true []))
 | .own i r=>match nth s.m.o i with
  |some ⟨.tree τ d l,rv,_⟩=>bif Nat.beq rv r then(match slq e τ l with
   |some l=>some (i,d,l,s)
   |none=>none) else none
  |_=>none
 |_=>none
def aK1 (i:Nat):Lf U->Bool
 | .own j _=>cond (Nat.beq i j) false true
 | .bor j _ _ _=>cond (Nat.beq i j) false true
 | .inn j _ _ _ _ _ _ _=>cond (Nat.beq i j) false true
 |_=>true
def apS (m:Mm U)(e i:Nat)(py:Lf U):Option (List (U.El e)×List Nat×Bool):=match py with
 | .nil=>some ([],[],true)
 |py=>bif aOv Y e then(match tY m py with
   |some (.sl τ l)=>match slq e τ l with
    |some l=>bif aK1 i py then some (l,[],true) else none
    |none=>none
   |_=>none) else(match py with
   | .sl τ l=>match slq e τ l with
    |some l=>some (l,[],false)
    |none=>none
   | .own j r=>match nth m.o j with
    |some ⟨.tree τ d l,rv,_⟩=>bif Nat.beq rv r&&aK1 i py then(match slq e τ l with
     |some l=>some (l,[j],d)
     |none=>none) else none
    |_=>none
   |_=>none)
def aOz:List Kd->Bool
 |[]=>true
 | .sl τ::ks=>Nat.ble 1 (U.K τ)&&aOz ks
 |_::ks=>aOz ks
def wr1 (m:Mm U):Lf U->Lf U->Option (List (Nat×EO U))
 | .own i r,y=>match nth m.o i,y with
  |some ⟨.tree τ' d _,rv,_⟩, .sl τ l=>bif d&&(Nat.beq rv r&&Nat.beq τ' τ) then some [(i,⟨.tree τ true l,rv,Nat.succ m.k⟩)] else none
  |_,_=>none
 | .inn i c τ q z j τ' _,y=>match nth m.o i,y with
  |some ⟨.tree τ1 d L,rv,cv⟩, .sl τ'' l=>bif d&&(Nat.beq cv c&&Nat.beq τ'' τ') then(match slq τ τ1 L with
   |some L=>match Y.C.bld τ (upd (Y.C.cel τ z) j (.sl τ'' l)) with
    |some z'=>some [(i,⟨.tree τ true (L.set q.toNat z'),rv,Nat.succ m.k⟩)]
    |none=>none
   |none=>none) else none
  |_,_=>none
 | .sl ..,_=>none
 | .bor ..,_=>none
 |_,_=>some []
def wrm (m:Mm U):List (Lf U)->List (Lf U)->Option (List (Nat×EO U))
 |[],[]=>some []
 |x::xs,y::ys=>match wr1 Y m x y with
  |some u=>match wrm m xs ys with
   |some b=>some (u++b)
   |none=>none
  |none=>none
 |_,_=>none
def bX9 (l:List (Nat×EO U))(o:List (EO U)):List (EO U):=List.rec (motive:=λ_=>List (EO U)) o (λx _ b=>upd b x.1 x.2) l
def bYa (l:List (Nat×EO U)):List Nat:=List.rec (motive:=λ_=>List Nat) [] (λx _ b=>x.1::b) l
def hdT (T:Nat):List Kd->Bool
 | .st T'::_=>Nat.beq T' T
 |_=>false
def bQc (s:St U)(S:Sum U)(xs:List (Sv U))(K:Sv U->St U->Option α):Option α:=match xs with
 | .l (.box i off)::ys=>match nth s.m.o i with
  |some ⟨.box T cs b,rv,_⟩=>match nR Y s.m S.ar (.a cs::ys) with
   |some a=>bif Nat.beq off 0&&(hdT T S.ar&&(Ls cs&&nO ys)) then bd (S.m a) λr=>match cO Y S.rs r with
    |(true,ds)::rs=>bif Nat.beq (len ds) (len cs) then K (xR rs) (trn s i (.box T ds (b.map λ_=>Nat.succ s.m.k)) rv) else none
    |_=>none
    else none
   |none=>none
  |_=>none
 |_=>none
def Hg {β:Type}(x:Option β):Bool:=match x with
 |some _=>false
 |none=>true
def bD7 (l:List Nat):Bool:=match l with
 |[]=>true
 |_=>false
def stp (s:St U)(op:Op)(K:Sv U->St U->Option α):Option α:=match op with
 | .box T x=>match parts (wI s x) with
  |some cs=>bif Hf cs then K (.l (.box (len s.m.o) 0)) (psh s (.box T cs (cs.map λ_=>s.m.k))) else none
  |none=>none
 | .alloc T=>match kE TI T with
  |some i=>K (.l (.box (len s.m.o) 0)) (psh s (.box T (i.z.map Kz.lf) (i.z.map λ_=>s.m.k)))
  |none=>none
 | .store t x y=>match kE TI t,fV s x,parts (wI s y) with
  |some i, .l (.box b off),some ps=>match nth s.m.o b with
   |some ⟨.box T cs u,rv,_⟩=>bif Nat.beq (len ps) i.k&&(Nat.ble (off+i.k) (len cs)&&Hf ps) then K (.l .any) (trn s b (.box T (spl cs off ps) (spl u off (ps.map λ_=>Nat.succ s.m.k))) rv) else none
   |_=>none
  |some i, .l (.oel b c τ q z off),some ps=>bif okv s.m b c then(match nth s.m.o b with
   |some ⟨.tree τ' d l,rv,_⟩=>match slq τ τ' l with
    |some l=>match aGo s.m (tk (drp (Y.kd τ) off) i.k) ps with
     |some (ds,ids,d')=>bif Nat.beq (len ps) i.k&&(Nat.ble (off+i.k) (U.K τ)&&(Hf ps&&dist (b::ids))) then(match Y.C.bld τ (spl (Y.C.cel τ z) off ds) with
      |some z'=>let s':=trn s b (.tree τ (d&&d') (l.set q.toNat z')) rv
       K (.l .any) ⟨s'.t,⟨Zc s'.m.k ids s'.m.o,s'.m.k,s'.m.ns⟩,s'.fr⟩
      |none=>none) else none
     |none=>none
    |none=>none
   |_=>none) else none
  |some i, .l (.oin b c τ q z j τ' l q' z' off),some ps=>bif okv s.m b c then(match nth s.m.o b with
   |some ⟨.tree τ1 d L,rv,_⟩=>match slq τ τ1 L with
    |some L=>match aGo s.m (tk (drp (Y.kd τ') off) i.k) ps with
     |some (ds,ids,d')=>bif Nat.beq (len ps) i.k&&(Nat.ble (off+i.k) (U.K τ')&&(Hf ps&&dist (b::ids))) then(match Y.C.bld τ' (spl (Y.C.cel τ' z') off ds) with
      |some v=>match Y.C.bld τ (upd (Y.C.cel τ z) j (.sl τ' (l.set q'.toNat v))) with
       |some A=>let s':=trn s b (.tree τ (d&&d') (L.set q.toNat A)) rv
        K (.l .any) ⟨s'.t,⟨Zc s'.m.k ids s'.m.o,s'.m.k,s'.m.ns⟩,s'.fr⟩
       |none=>none
      |none=>none) else none
     |none=>none
    |none=>none
   |_=>none) else none
  |_,_,_=>none
 | .buildSlice t n ps=>match kE TI t with
  |some ⟨.sl e ek _,_,_⟩=>bif Nat.beq (len ps.toList) n&&(Nat.ble (n*ek) 16777216&&Lr (U:=U) e ek e) then(match Rt Y s e 0 ps.toList with
   |some (l,ids,d)=>bif !Hg (kE FZ 3000000)&&(!Nat.beq n 0&&bD7 ids) then K (.l (.sl e l)) s else bif dist (len s.m.o::ids) then(let s':=trn (psh s .dead) (len s.m.o) (.tree e d l) s.m.k
    K (.l (.own (len s.m.o) s.m.k)) ⟨s'.t,⟨Zc s'.m.k ids s'.m.o,s'.m.k,s'.m.ns⟩,s'.fr⟩) else none
   |none=>none) else none
  |_=>none
 | .makeSlice t x y=>match kE TI t with
  |some ⟨.sl e ek eb,_,_⟩=>match kE TI e,fV s x with
   |some i, .l (.int .i64 n)=>bif aOy x y&&(Nat.ble eb 2048&&Lr (U:=U) e ek e) then(match rds s.m (Y.kd e) (i.z.map Kz.lf) with
    |some ds=>match Y.C.bld e ds with
     |some z=>gd (bT0 n) (K (.l (.own (len s.m.o) s.m.k)) (psh s (.tree e true (List.replicate n.toNat z))))
     |none=>none
    |none=>none) else none
   |_,_=>none
  |_=>none
 | .call ⟨.builtin .append,h,ats⟩=>match h.toList,ats.toList with
  |[x,y],[t,t2]=>match kE TI t with
   |some ⟨.sl e ek eb,_,_⟩=>bif Nat.beq t t2&&(Nat.ble eb 2048&&Lr (U:=U) e ek e) then(match fV s x,fV s y with
    | .l (.suf i c τ n l), .l py=>bif okv s.m i c then(match slq e τ l with
     |some l=>match apS Y s.m e i py with
      |some (l',[],_)=>bif Nat.ble 1 (len l') then gd (aV l l') (K (.l (.bor i (Nat.succ s.m.k) e (l.drop n.toNat++l'))) (trn s i .dead (Nat.succ s.m.k))) else none
      |_=>none
     |none=>none) else none
    | .l B, .l py=>match apD s e B with
     |some (i,d,l,s1)=>match apS Y s1.m e i py with
      |some (l',ids,d')=>gd (aV l l') (
       let s2:=trn s1 i (.tree e (d&&d') (l++l')) (Nat.succ s1.m.k)
       K (.l (.own i (Nat.succ s1.m.k))) ⟨s2.t,⟨Zc s2.m.k ids s2.m.o,s2.m.k,s2.m.ns⟩,s2.fr⟩)
      |none=>none
     |none=>none
    |_,_=>none) else none
   |_=>none
  |_,_=>none
 | .call ⟨.value (.func f),h,_⟩=>match kE FZ f with
  |some S=>bif S.wt&&S.fr then bQc Y s S (h.toList.map (fV s)) K else(let xs:=h.toList.map (fV s)
   match nR Y s.m S.ar xs with
   |some a=>bif S.wt then none
    else bif S.fr then bd (S.m a) λr=>
     let q:=kV s.m.k (len s.m.o) (cO Y S.rs r)
     K (xR q.1) ⟨s.t,⟨s.m.o++q.2,s.m.k,s.m.ns⟩,s.fr⟩
    else bif zR Y S.rs||nO xs then bd (S.m a) λr=>K (xR (cO Y S.rs r)) s
    else match bAy s.m xs with
     |some (i,c)=>bd (S.m a) λr=>K (xR (Nu i c (cO Y S.rs r))) s
     |none=>none
   |none=>none)
  |none=>none
 | .binOp .add _ x y _=>match wI s x,y with
  | .l (.nat a), .const (.int .i64 n)=>bif decide (n=1) then(match nth s.m.ns a with
    |some (i,f)=>bif f then K (.l (.nat (len s.m.ns))) ⟨s.t,⟨s.m.o,s.m.k,s.m.ns++[(Nat.succ i,false)]⟩,s.fr⟩ else Zb Y TI s op (λx=>K x s)
    |none=>none) else Zb Y TI s op (λx=>K x s)
  |_,_=>Zb Y TI s op (λx=>K x s)
 | .convert D p x=>match kE FZ (p+1000000) with
  |some _=>match kE TI D,kE TI p,kE TI Y.bt,fV s x with
   |some ⟨.str,_,_⟩,some ⟨.sl e _ _,_,_⟩,some ⟨.int .u8,_,_⟩, .l (.str z)=>bif Nat.beq e Y.bt then K (.l (.sl Y.bt ((bW z).map Y.be))) s else none
   |_,_,_,_=>Zb Y TI s op (λx=>K x s)
  |none=>Zb Y TI s op (λx=>K x s)
 | .slice t x none none none=>Zb Y TI s op (λx=>K x s)
 | .slice t x (some b) none none=>match kE FZ 2000000 with
  |some _=>match kE TI t,fV s x,xS (fV s b) with
   |some ⟨.sl e ek _,_,_⟩, .l (.own i r),some n=>match nth s.m.o i with
    |some ⟨.tree τ _ l,rv,cv⟩=>bif Nat.beq rv r&&Lr (U:=U) e ek τ then gd (lU l n) (K (.l (.suf i cv τ n l)) s) else none
    |_=>none
   |_,_,_=>Zb Y TI s op (λx=>K x s)
  |none=>Zb Y TI s op (λx=>K x s)
 |op=>Zb Y TI s op (λx=>K x s)
def one (o:Oper)(s:St U)(K:St U->Option α):Option α:=stp Y TI FZ s o.op λx s'=>K (put s' o.dst x)
def tst (n:Nat)(s:St U)(T F:St U->Option α):Option α:=match nth s.t n with
 |some (.l (.bool b))=>bif b then T (put s (some n) (.l (.bool true))) else F (put s (some n) (.l (.bool false)))
 |some (.l (.lt a m))=>match nth s.m.ns a with
  |some (i,_)=>bif decide ((i:Int)<m) then T (put ⟨s.t,⟨s.m.o,s.m.k,upd s.m.ns a (i,true)⟩,s.fr⟩ (some n) (.l (.bool true))) else F (put s (some n) (.l (.bool false)))
  |none=>none
 |_=>none
def skp (o:Oper)(s:St U)(K:St U->Option α):Option α:=K (put s o.dst (.l .und))
def bSr:Option (Sv U)->Bool
 |some (.l .und)=>true
 |_=>false
def aY0 (al:List Oper)(o:Oper)(run:St U->Option α)(s:St U)(K:St U->Option α):Option α:=match o.guard with
 |none=>run s
 |some (j,want)=>match nth al j with
  |some oj=>match oj.dst with
   |some n=>bif bSr (nth s.t n) then skp o s K else
    tst n s (λs=>bif want then run s else skp o s K) (λs=>bif want then skp o s K else run s)
   |none=>none
  |none=>none
def grd (al:List Oper)(o:Oper)(s:St U)(K:St U->Option α):Option α:=aY0 al o (λs=>one Y TI FZ o s K) s K
def ops (al:List Oper):List Oper->St U->(St U->Option α)->Option α
 |[],s,K=>K s
 |o::l,s,K=>grd Y TI FZ al o s λs=>ops al l s K
def yX:Op->Nat
 | .box .. | .alloc _| .makeSlice .. =>1
 | .buildSlice .. =>1
 | .call ⟨.value (.func f),_,_⟩=>match kE FZ f with
  |some S=>bif S.wt then 2 else 1
  |none=>1
 | .call ⟨.value _,_,_⟩=>1
 | .store .. =>2
 | .call ⟨.builtin .append,_,_⟩=>2
 | .convert _ b _=>match kE FZ (b+1000000) with
  |some _=>1
  |none=>0
 |_=>0
inductive Lo where
 |s (n:Nat)
 |c (b j:Nat)
inductive DI where
 |dat (l:Lo) (kd:Kd)
 |nat (l:Lo)
 |tr (l:Lo) (i τ:Nat) (d:Bool)
 |nt (l:Lo) (τ:Nat) (d:Bool)
 |ti (i τ:Nat) (d:Bool)
structure Tm where
 ws:List (Nat×Nat)
 it:List DI
 an:List (Nat×Nat)
 dd:List Nat
def DI.ty (U:Uni):DI->Type
 | .dat _ kd=>kd.ty U
 | .nat _=>Nat
 | .tr _ _ τ _=>List (U.El τ)
 | .nt _ τ _=>List (U.El τ)
 | .ti _ τ _=>List (U.El τ)
def Dat (U:Uni):List DI->Type
 |[]=>Unit
 |[k]=>k.ty U
 |k::b::ks=>k.ty U×Dat U (b::ks)
def lkp (s:St U):Lo->Option (Sv U)
 | .s n=>nth s.t n
 | .c b j=>match nth s.m.o b with
  |some ⟨.box _ cs _,_,_⟩=>match nth cs j with
   |some x=>some (.l x)
   |none=>none
  |_=>none
def bT5 (m:Mm U)(i τ:Nat)(d:Bool):Option (List (U.El τ)):=match nth m.o i with
 |some ⟨.tree τ' d' l,rv,_⟩=>bif Nat.beq rv 0&&(d'|| !d) then slq τ τ' l else none
 |_=>none
def xE (m:Mm U)(τ:Nat)(d:Bool):Sv U->Option (Option Nat×List (U.El τ))
 | .l .nil=>bif Nat.ble 1 (U.K τ) then some (none,[]) else none
 | .l (.own i r)=>match nth m.o i with
  |some ⟨.tree τ' d' l,rv,_⟩=>bif Nat.beq rv r&&(d'|| !d) then(match slq τ τ' l with
   |some l=>some (some i,l)
   |none=>none) else none
  |_=>none
 |_=>none
def bLy (m:Mm U):Sv U->Option Nat
 | .l (.nat a)=>match nth m.ns a with
  |some (i,_)=>some i
  |none=>none
 | .l (.int .i64 n)=>bif decide (n=0) then some 0 else none
 |_=>none
def aY1 (s:St U):(x:DI)->Option (x.ty U)
 | .ti i τ d=>bT5 s.m i τ d
 | .dat l kd=>match lkp s l with
  |some v=>bif aOw v then Za Y s.m kd v else none
  |none=>none
 | .nat l=>match lkp s l with
  |some v=>bLy s.m v
  |none=>none
 | .tr l _ τ d=>match lkp s l with
  |some v=>match xE s.m τ d v with
   |some q=>some q.2
   |none=>none
  |none=>none
 | .nt l τ d=>match lkp s l with
  |some v=>match xE s.m τ d v with
   |some q=>some q.2
   |none=>none
  |none=>none
def gets (s:St U):(xs:List DI)->Option (Dat U xs)
 |[]=>some ()
 |[x]=>aY1 Y s x
 |x::c::xs=>match aY1 Y s x with
  |some a=>match gets s (c::xs) with
   |some b=>some (a,b)
   |none=>none
  |none=>none
def aBy (s:St U):List DI->Option (List (Option Nat×Option Nat))
 |[]=>some []
 | .ti i _ _::xs=>match aBy s xs with
  |some r=>some ((some i,some i)::r)
  |none=>none
 | .tr l i τ d::xs=>match lkp s l with
  |some v=>match xE s.m τ d v with
   |some q=>match aBy s xs with
    |some r=>some ((some i,q.1)::r)
    |none=>none
   |none=>none
  |none=>none
 | .nt l τ d::xs=>match lkp s l with
  |some v=>match xE s.m τ d v with
   |some q=>match aBy s xs with
    |some r=>some ((none,q.1)::r)
    |none=>none
   |none=>none
  |none=>none
 |_::xs=>aBy s xs
def Cx (l:List (Option Nat×Option Nat)):List Nat:=List.rec (motive:=λ_=>List Nat) [] (λx _ b=>match x.2 with|some i=>i::b|none=>b) l
def aGp:List DI->List (Nat×Nat)
 |[]=>[]
 | .dat (.c b j) _::xs=>(b,j)::aGp xs
 | .nat (.c b j)::xs=>(b,j)::aGp xs
 | .tr (.c b j) _ _ _::xs=>(b,j)::aGp xs
 | .nt (.c b j) _ _::xs=>(b,j)::aGp xs
 |_::xs=>aGp xs
def aO0 (b j:Nat)(l:List (Nat×Nat)):Bool:=List.rec (motive:=λ_=>Bool) false (λx _ c=>cond (Nat.beq x.1 b&&Nat.beq x.2 j) true c) l
def hasB (b:Nat)(l:List (Nat×Nat)):Bool:=List.rec (motive:=λ_=>Bool) false (λx _ c=>cond (Nat.beq x.1 b) true c) l
def bQd (cs:List (Nat×Nat))(k b:Nat):Nat->List Nat->Bool
 |_,[]=>true
 |j,v::vs=>(Nat.ble v k||aO0 b j cs)&&bQd cs k b (Nat.succ j) vs
def bD8 (cs:List (Nat×Nat))(dd:List Nat)(k:Nat):Nat->List (EO U)->List (EO U)->Bool
 |_,[],_=>true
 |i,_::es,e'::es'=>(Nat.ble e'.cv k||(Ps i dd||(match e'.ob with| .box _ _ vs=>hasB i cs&&bQd cs k i 0 vs|_=>false)))&&bD8 cs dd k (Nat.succ i) es es'
 |_,_,[]=>false
def bIy (N:Nat)(dd:List Nat):List Nat->Bool
 |[]=>true
 |i::is=>(Nat.ble N i||Ps i dd)&&bIy N dd is
def bIz (N:Nat):List Nat->Bool
 |[]=>true
 |i::is=>Nat.ble (Nat.succ i) N&&bIz N is
def jP:List DI->List Nat
 |[]=>[]
 | .tr _ i _ _::xs=>i::jP xs
 | .ti i _ _::xs=>i::jP xs
 |_::xs=>jP xs
def Tm.dead (tm:Tm):List Nat:=jP tm.it++tm.dd
def Tm.aCG (tm:Tm):List (Nat×Nat):=aGp tm.it++tm.an
def Li:List (Nat×Nat)->Nat->Nat->Bool
 |[],_,_=>false
 |(a,b)::r,p,n=>(Nat.ble (p+a) n&&Nat.ble (Nat.succ n) (p+a+b))||Li r (p+a+b) n
def slI (ws:List (Nat×Nat)):List DI->Bool
 |[]=>true
 | .dat (.s n) _::xs=>Li ws 0 n&&slI ws xs
 | .nat (.s n)::xs=>Li ws 0 n&&slI ws xs
 | .tr (.s n) _ _ _::xs=>Li ws 0 n&&slI ws xs
 | .nt (.s n) _ _::xs=>Li ws 0 n&&slI ws xs
 |_::xs=>slI ws xs
def col (b:St U)(tm:Tm)(s:St U):Option (Dat U tm.it):=match aBy s tm.it with
 |some q=>bif slI tm.ws tm.it&&(bD8 tm.aCG tm.dead b.m.k 0 b.m.o s.m.o&&(bIy (len b.m.o) tm.dead (Cx q)&&(dist (Cx q)&&(dist (jP tm.it)&&bIz (len b.m.o) (jP tm.it))))) then gets Y s tm.it else none
 |none=>none
def bAz (n:Nat)(K:List (Sv U)->List (Sv U)):List (Sv U)->List (Sv U):=Nat.rec (motive:=λ_=>List (Sv U)->List (Sv U)) K (λ_ b l=>match l with|[]=>[]|_::t=>Sv.l .any::b t) n
def bEa (n:Nat)(K:List (Sv U)->List (Sv U)):List (Sv U)->List (Sv U):=Nat.rec (motive:=λ_=>List (Sv U)->List (Sv U)) K (λ_ b l=>match l with|[]=>[]|x::t=>x::b t) n
def wip:List (Nat×Nat)->List (Sv U)->List (Sv U)
 |[],l=>l
 |(a,b)::r,l=>bEa a (bAz b (wip r)) l
def wrG (ws:List (Nat×Nat))(al:List Oper)(l:List Oper):Bool:=List.rec (motive:=λ_=>Bool) true (λo _ b=>cond ((match o.dst with|some n=>Li ws 0 n|none=>true)&&(match o.guard with|some (j,_)=>(match nth al j with|some oj=>(match oj.dst with|some n=>Li ws 0 n|none=>true)|none=>true)|none=>true)) b false) l
def wr (ws:List (Nat×Nat)):Nat->Code->Bool
 |0,_=>false
 |f+1, .seq a b=>wr ws f a&&wr ws f b
 |f+1, .cond (.tmp n) a b=>Li ws 0 n&&(wr ws f a&&wr ws f b)
 |f+1, .block _ c=>wr ws f c
 |f+1, .loop c=>wr ws f c
 |_+1, .region _ os _=>wrG ws os.toList os.toList
 |_+1, .skip=>true
 |_+1, .ret=>true
 |_+1, .exit _=>true
 |_+1,_=>false
def aBL (s:St U)(x:Sv U):Lo->St U
 | .s n=>put s (some n) x
 | .c b j=>match nth s.m.o b,x with
  |some ⟨.box T cs vs,rv,_⟩, .l y=>trn s b (.box T (upd cs j y) (upd vs j (Nat.succ s.m.k))) rv
  |_,_=>s
def set1 (k n:Nat)(s:St U):(x:DI)->x.ty U->St U
 | .dat l kd,d=>aBL s (bD4 (aBx Y kd d)) l
 | .nat l,i=>aBL ⟨s.t,⟨s.m.o,s.m.k,s.m.ns++[(⟨i,false⟩:Nat×Bool)]⟩,s.fr⟩ (.l (.nat (len s.m.ns))) l
 | .tr l i _ _,_=>aBL s (.l (.own i k)) l
 | .nt l _ _,_=>aBL s (.l (.own n k)) l
 | .ti _ _ _,_=>s
def nxt (n:Nat):DI->Nat
 | .nt .. =>Nat.succ n
 |_=>n
def sets (k n:Nat)(s:St U):(xs:List DI)->Dat U xs->St U
 |[],_=>s
 |[x],d=>set1 Y k n s x d
 |x::b::xs,d=>sets k (nxt n x) (set1 Y k n s x d.1) (b::xs) d.2
def aO1 (k:Nat):(x:DI)->x.ty U->List (EO U)->List (EO U)
 | .tr _ i τ b,d,o=>upd o i ⟨.tree τ b d,k,k⟩
 | .nt _ τ b,d,o=>o++[⟨.tree τ b d,k,k⟩]
 | .ti i τ b,d,o=>upd o i ⟨.tree τ b d,0,k⟩
 |_,_,o=>o
def aL1 (k:Nat):(xs:List DI)->Dat U xs->List (EO U)->List (EO U)
 |[],_,o=>o
 |[x],d,o=>aO1 k x d o
 |x::b::xs,d,o=>aL1 k (b::xs) d.2 (aO1 k x d.1 o)
def Pt (k:Nat)(l:List (Nat×Nat))(o:List (EO U)):List (EO U):=List.rec (motive:=λ_=>List (EO U)) o (λx _ b=>match nth b x.1 with|some ⟨.box T cs vs,_,_⟩=>upd b x.1 ⟨.box T (upd cs x.2 .any) (upd vs x.2 k),k,k⟩|_=>b) l
def reb (b:St U)(tm:Tm)(d:Dat U tm.it):St U:=
 let k:=Nat.succ b.m.k
 sets Y k (len b.m.o) ⟨wip tm.ws b.t,⟨aL1 k tm.it d (Pt k tm.aCG (Zc k tm.dead b.m.o)),k,b.m.ns⟩,b.fr⟩ tm.it d
inductive An where
 |n
 |s (a b:An)
 |j (t:Tm) (a:An)
 |jx (t:Tm) (a:An)
 |l (t:Tm) (f:Nat) (a:An)
 |r (a0:Option Nat) (ord:List (Nat×Bool))
 |rj (k:Nat) (t:Tm) (a:An)
 |z (ord:List Nat)
 |y (kb:Bool) (f a0:Option Nat) (ord:List (Nat×Bool))
 |il (i:Nat) (a r:An)
 |w (bs:List Nat) (ord:List (Nat×Bool))
 |v (bs:List Nat) (ord:List (Nat×Bool))
 |u (a0:Option Nat) (bs fs:List Nat) (ord:List (Nat×Bool))
 |pl (a:An)
def bQe:List (Nat×Nat)->Nat->Nat->Nat->Bool
 |[],_,_,_=>false
 |(a,b)::r,p,c,hi=>(Nat.ble (p+a) c&&Nat.ble hi (p+a+b))||bQe r (p+a+b) c hi
def bEb (ws:List (Nat×Nat)):List (Nat×Nat)->Nat->Bool
 |[],_=>true
 |(a,b)::r,p=>(Nat.beq b 0||bQe ws 0 (p+a) (p+a+b))&&bEb ws r (p+a+b)
def anW (ws:List (Nat×Nat)):An->Bool
 | .s a b=>anW ws a&&anW ws b
 | .j t a=>bEb ws t.ws 0&&anW ws a
 | .jx t a=>bEb ws t.ws 0&&anW ws a
 | .l t _ a=>bEb ws t.ws 0&&anW ws a
 | .rj _ t _=>bEb ws t.ws 0
 |_=>true
def An.a:An->An
 | .s a _=>a
 |_=> .n
def An.b:An->An
 | .s _ b=>b
 |_=> .n
def bT {β:Type}(n:Nat)(F:(β->Option α)->β->Option α):β->Option α:=Nat.rec (motive:=λ_=>β->Option α) (λ_=>none) (λ_ b=>F b) n
def aBz (al:List Oper):List Nat->St U->(St U->Option α)->Option α
 |[],s,K=>K s
 |i::l,s,K=>match nth al i with
  |some o=>grd Y TI FZ al o s λs=>aBz al l s K
  |none=>none
def aO2 (l:List (Nat×Bool)):Bool:=List.rec (motive:=λ_=>Bool) true (λx _ b=>cond x.2 false b) l
def frees (al:List Oper)(a0:Option Nat):List (Nat×Bool)->Bool
 |[]=>true
 |(i,f)::l=>match nth al i with
  |some o=>bif f then Nat.beq (yX FZ o.op) 0&&frees al a0 l else
   (bif Nat.ble (yX FZ o.op) 1 then frees al a0 l else(match a0 with|some b=>Nat.beq b i|none=>false)&&aO2 l)
  |none=>false
def bGt (l:List (Nat×Bool)):List Nat:=List.rec (motive:=λ_=>List Nat) [] (λx _ b=>x.1::b) l
def aL2 (al:List Oper)(os:Array Oper):An->Option (List Nat)
 | .r a0 ord=>bif aYy os a0 ord&&frees FZ al a0 ord then some (bGt ord) else none
 | .z ord=>bif Region.noSelect os&&(Nat.beq (len ord) (len al)&&chz os ord (Array.replicate os.size false)) then some ord else none
 |_=>none
def aO3 (al:List Oper)(l:List Nat):List Oper:=List.rec (motive:=λ_=>List Oper) [] (λi _ b=>match nth al i with|some o=>o::b|none=>b) l
def aO4:Op->Bool
 | .move _=>true
 | .assign _=>true
 | .extract .. =>true
 |_=>false
def Di (a:Option Nat)(i:Nat):Bool:=match a with
 |some b=>Nat.beq b i
 |none=>false
def unt:Nat->Nat->List (EO U)->Bool
 |0,_,_=>true
 |_+1,_,[]=>true
 |n+1,k,e::o=>Nat.ble e.cv k&&unt n k o
def unO (kd:Option (Nat×Nat))(o:List (EO U)):Bool:=match kd with
 |some (n,k)=>unt n k o
 |none=>false
def Dj (s:St U):Op->Bool
 | .alloc t=> !Hg (kE TI t)
 | .buildSlice t n ps=>match kE TI t with
  |some ⟨.sl e ek _,_,_⟩=>Nat.beq (len ps.toList) n&&(Nat.ble (n*ek) 16777216&&(Lr (U:=U) e ek e&&(match Rt Y s e 0 ps.toList with
   |some (_,[],_)=>true
   |_=>false)))
  |_=>false
 |_=>false
def aUc (s:St U)(d:Option Nat):Bool:=match d with
 |some n=>(match nth s.t n with
  |some (.l .any)=>true
  |_=>false)
 |none=>true
def bEc (oj:Oper)(d:Option Nat):Bool:=match d with
 |none=>true
 |some n=>match oj.op with
  | .alloc _=>true
  | .buildSlice _ _ ps=>ps.toList.all λx=>match x.2 with| .tmp m=> !Nat.beq n m|_=>true
  |_=>false
def bL0 (oj:Oper)(d:Option Nat):Bool:=(match d with
 |none=>true
 |some n=>(match oj.dst with|some m=> !Nat.beq n m|none=>true))&&bEc oj d
def aK2 (al:List Oper)(f:Option Nat)(s:St U):Bool:=match f with
 |some j=>match nth al j with
  |some o=>Hg o.guard&&(aUc s o.dst&&(bEc o o.dst&&Dj Y TI s o.op))
  |none=>false
 |none=>true
def wpe (al:List Oper)(f:Option Nat)(s:St U):St U:=match f with
 |some j=>match nth al j with
  |some o=>put s o.dst (.l .any)
  |none=>s
 |none=>s
def aB0 (al:List Oper)(a0:Option Nat)(kd:Option (Nat×Nat)):List (Nat×Bool)->Option Nat->Bool->Bool->St U->(St U->Option α)->Option α
 |[],_,_,_,s,K=>K s
 |(i,fl)::l,f,pre,st,s,K=>match nth al i with
  |some o=>bif fl then(bif Nat.beq (yX FZ o.op) 0&&(aO4 o.op||st) then grd Y TI FZ al o s (λs'=>aB0 al a0 kd l f pre st s' K) else none)
   else bif aK2 Y TI al f s then grd Y TI FZ al o s (λs'=>bif !(pre&& !Di a0 i)||(Nat.ble (yX FZ o.op) 1||unO kd s'.m.o) then aB0 al a0 kd l (bif Di f i then none else f) (pre&& !Di a0 i) (st&&Hg kd) s' K else none)
   else none
  |none=>none
def tkY (os:Array Oper)(a0:Option Nat)(i:Nat)(c:Array Bool):Bool:=Region.free .any os c i&&(Region.ready .any os c).contains i&&(match a0 with
 |none=>true
 |some b=>b !=i&&(bIr .any os 40 b i||(match os[i]? with|some o=>aO4 o.op|none=>false)))
def a0Y (a0:Option Nat)(i:Nat)(b:Array Bool):Bool:=a0 !=some i|| !iR a0 (b.setIfInBounds i true)
def aGq (os:Array Oper)(a0:Option Nat):List (Nat×Bool)->Array Bool->Bool
 |[],b=>(Region.ready .any os b).isEmpty
 |(i,true)::r,b=>tkY os a0 i b&&aGq os a0 r (b.setIfInBounds i true)
 |(i,false)::r,b=>Region.ready .any os b==[i]&&(a0Y a0 i b&&aGq os a0 r (b.setIfInBounds i true))
def bEd (os:Array Oper)(a0:Option Nat)(oj:Oper)(j:Nat):List (Nat×Bool)->Array Bool->Bool
 |[],_=>false
 |(i,fl)::r,b=>bif Nat.beq i j then !fl&&aGq os a0 r b else
  ((match os[i]? with|some o=>bL0 oj o.dst|none=>false)&&(bif fl then tkY os a0 i b&&bEd os a0 oj j r (b.setIfInBounds i true)
   else Region.ready .any os b==[i]&&(a0Y a0 i b&&bEd os a0 oj j r (b.setIfInBounds i true))))
def bL2 (os:Array Oper)(a0:Option Nat)(oj:Oper)(j:Nat):List (Nat×Bool)->Array Bool->Bool
 |[],_=>false
 |(i,fl)::r,b=>bif Nat.beq i j then !fl&&(Region.ready .any os b==[i]&&aGq os a0 r (b.setIfInBounds i true)) else
  bif fl then tkY os a0 i b&&bL2 os a0 oj j r (b.setIfInBounds i true)
  else((Region.ready .any os b==[i]||((Region.ready .any os b==[i,j]||Region.ready .any os b==[j,i])&&bEd os a0 oj j ((i,fl)::r) (b.setIfInBounds j true)))
   &&(a0Y a0 i b&&bL2 os a0 oj j r (b.setIfInBounds i true)))
def aY4 (os:Array Oper)(f a0:Option Nat)(ord:List (Nat×Bool)):Bool:=Region.noSelect os&&(Nat.beq (len ord) os.size&&(match f with
 |none=>aGq os a0 ord (Array.replicate os.size false)
 |some j=>a0 !=some j&&(match os[j]? with
  |some oj=>bL2 os a0 oj j ord (Array.replicate os.size false)
  |none=>false)))
def stW (bs:List Nat)(s:St U):Op->Bool
 | .store _ x _=>match fV s x with
  | .l (.box b _)=>Ps b bs
  |_=>false
 |_=>false
def noG (o:Oper):Bool:=match o.guard with
 |none=>true
 |some _=>false
def ptW (FZ:List (Nat×Sum U))(bs:List Nat)(s:St U):Op->Bool
 | .call ⟨.value (.func f),c,_⟩=>match kE FZ f,c.toList.map (fV s) with
  |some S, .l (.box b 0)::_=>S.wt&&(S.fr&&Ps b bs)
  |_,_=>false
 |_=>false
def erl (bs:List Nat)(s:St U):Op->Bool
 | .load _ x=>match fV s x with
  | .l (.box b _)=> !Ps b bs
  | .l (.ptr ..)=>true
  |_=>false
 | .fieldAddr .. =>true
 | .pick .. =>true
 | .indexAddr _ x y=>match fV s x,fV s y with
  | .l (.sl ..), .l (.int ..)=>true
  |_,_=>false
 | .binOp b _ x y _=>match b,wI s x,wI s y with
  | .add, .l (.int ..), .l (.int ..)=>true
  | .sub, .l (.int ..), .l (.int ..)=>true
  | .lss, .l (.int ..), .l (.int ..)=>true
  | .leq, .l (.int ..), .l (.int ..)=>true
  | .gtr, .l (.int ..), .l (.int ..)=>true
  | .geq, .l (.int ..), .l (.int ..)=>true
  | .eql, .l (.int ..), .l (.int ..)=>true
  | .neq, .l (.int ..), .l (.int ..)=>true
  |_,_,_=>false
 |op=>aO4 op
def bxs (l:List Nat)(o:List (EO U)):Bool:=List.rec (motive:=λ_=>Bool) true (λb _ c=>match nth o b with|some ⟨.box ..,_,_⟩=>c|_=>false) l
def aO5:Lf U->Bool
 | .int .. =>true
 | .bool _=>true
 | .str _=>true
 | .sl .. =>true
 | .nil=>true
 |_=>false
def aB1 (l:List (Lf U)):Bool:=List.rec (motive:=λ_=>Bool) true (λx _ b=>aO5 x&&b) l
def O4:Sv U->Bool
 | .l x=>aO5 x
 | .a cs=>aB1 cs
 | .t _=>false
def vY (l:List (Sv U)):Bool:=List.rec (motive:=λ_=>Bool) true (λx _ b=>O4 x&&b) l
def flc (s:St U)(o:Oper)(K:Option α):Option α:=match o.op with
 | .call ⟨.value (.func f),b,_⟩=>match kE FZ f with
  |some S=>match nR Y s.m S.ar (b.toList.map (fV s)) with
   |some a=>bif !S.wt&&(!S.fr&&vY (b.toList.map (wI s))) then bd (S.m a) λ_=>K else none
   |none=>none
  |none=>none
 |op=>bif Dj Y TI s op then K else none
def aUd (oj:Oper)(d:Option Nat):Bool:=match d with
 |none=>true
 |some n=>match oj.op with
  | .call ⟨.value (.func _),b,_⟩=>b.toList.all λx=>match x with| .tmp m=> !Nat.beq n m|_=>true
  |_=>bEc oj d
def aO6 (oj:Oper)(d:Option Nat):Bool:=(match d with
 |none=>true
 |some n=>(match oj.dst with|some m=> !Nat.beq n m|none=>true))&&aUd oj d
def bT7 (al:List Oper)(s:St U)(fs:List Nat)(K:Option α):Option α:=List.rec (motive:=λ_=>Option α) K (λj _ b=>match nth al j with
  |some o=>bif Hg o.guard&&(aUc s o.dst&&aUd o o.dst) then flc Y TI FZ s o b else none
  |none=>none) fs
def rmv (i:Nat)(l:List Nat):List Nat:=List.rec (motive:=λ_=>List Nat) [] (λx _ b=>bif Nat.beq x i then b else x::b) l
def wpl (al:List Oper)(s:St U)(fs:List Nat):St U:=List.rec (motive:=λ_=>St U) s (λj _ b=>match nth al j with
 |some o=>put b o.dst (.l .any)
 |none=>b) fs
def erp (s:St U)(op:Op):Bool:=aO4 op||(match op with
 | .binOp .. =>erl [] s op
 |_=>false)
def Gu (al:List Oper)(a0:Option Nat)(bs:List Nat)(kd:Option (Nat×Nat)):List (Nat×Bool)->List Nat->Bool->Bool->St U->(St U->Option α)->Option α
 |[],_,_,_,s,K=>K s
 |(i,fl)::l,fs,st,ps,s,K=>match nth al i with
  |some o=>bif fl then(bif st then aY0 al o (λs1=>bif erl bs s1 o.op then one Y TI FZ o s1 (λs'=>Gu al a0 bs kd l fs st ps s' K) else none) s (λs'=>Gu al a0 bs kd l fs st ps s' K) else(bif erp s o.op&&noG o then one Y TI FZ o s (λs'=>Gu al a0 bs kd l fs st ps s' K) else none))
   else(bif noG o then bT7 Y TI FZ al s fs (
    bif Nat.ble (yX FZ o.op) 1 then one Y TI FZ o s (λs'=>Gu al a0 bs kd l (rmv i fs) false (ps||Di a0 i) s' K)
    else(bif stW bs s o.op||ptW FZ bs s o.op then one Y TI FZ o s (λs'=>Gu al a0 bs kd l (rmv i fs) false (ps||Di a0 i) s' K)
    else one Y TI FZ o s (λs'=>bif unO kd s'.m.o||(Di a0 i||ps) then Gu al a0 bs kd l (rmv i fs) false (ps||Di a0 i) s' K else none))) else none)
  |none=>none
def aGr (os:Array Oper)(b:List Nat)(d:Option Nat):Bool:=b.all λj=>match os[j]? with
 |some oj=>aO6 oj d
 |none=>false
def aL3 (os:Array Oper)(a0:Option Nat):Nat->List Nat->List Nat->List (Nat×Bool)->Array Bool->Bool
 |0,_,_,_,_=>false
 |_+1,_,c,[],b=>c.isEmpty&&(Region.ready .any os b).isEmpty
 |n+1,d,c,(i,true)::r,b=>(match os[i]? with|some o=>aGr os c o.dst|none=>false)&&(tkY os a0 i b&&aL3 os a0 n d c r (b.setIfInBounds i true))
 |n+1,d,c,(i,false)::r,b=>bif Ps i c then(match os[i]? with
   |some o=>aGr os (rmv i c) o.dst&&(!Di a0 i&&aL3 os a0 n d (rmv i c) r b)
   |none=>false) else
  ((Region.ready .any os b).contains i&&((Region.ready .any os b).all λj=>bif Nat.beq j i then(match os[i]? with
    |some o=>aGr os c o.dst&&(a0Y a0 i b&&aL3 os a0 n (rmv i d) c r (b.setIfInBounds i true))
    |none=>false)
   else(Ps j d&&(match os[j]? with
    |some oj=>aGr os c oj.dst&&aL3 os a0 n (rmv j d) (j::c) ((i,false)::r) (b.setIfInBounds j true)
    |none=>false))))
def rgn (al:List Oper)(os:Array Oper)(d:Bool)(an:An)(s:St U)(N:St U->Option α):Option α:=match an with
 | .rj k tm a=>bif d then(match aL2 FZ al os a with
   |some l=>aBz Y TI FZ al (tk l k) s λs1=>bif wrG tm.ws al (aO3 al (drp l k)) then bd (aBz Y TI FZ al (drp l k) s1 λs'=>col Y s1 tm s') λd=>N (reb Y s1 tm d) else none
   |none=>none) else
   ops Y TI FZ al (tk al k) s λs1=>bif wrG tm.ws al (drp al k) then bd (ops Y TI FZ al (drp al k) s1 λs'=>col Y s1 tm s') λd=>N (reb Y s1 tm d) else none
 | .y kb f a0 ord=>bif d&&aY4 os f a0 ord then aB0 Y TI FZ al a0 (bif kb then some (len s.m.o,s.m.k) else none) ord f true true (wpe al f s) N else none
 | .w _ _=>none
 | .u a0 bs fs ord=>bif d&&(Region.noSelect os&&(aL3 os a0 (Nat.succ (Nat.add (len ord) (len ord))) fs [] ord (Array.replicate os.size false)&&bxs bs s.m.o)) then Gu Y TI FZ al a0 bs (some (len s.m.o,s.m.k)) ord fs true false (wpl al s fs) N else none
 | .v _ _=>none
 |an=>bif d then(match aL2 FZ al os an with
   |some l=>aBz Y TI FZ al l s N
   |none=>none) else ops Y TI FZ al al s N
def bQh (s:St U):ResultVar->Option (Sv U)
 | .tmp n=>nth s.t n
 | .cell a t=>match nth s.t a,kE TI t with
  |some (.l (.box b 0)),some i=>match nth s.m.o b with
   |some ⟨.box _ cs _,_,_⟩=>cut i cs 0
   |_=>none
  |_,_=>none
def J2 (s:St U):List ResultVar->Option (List (Sv U))
 |[]=>some []
 |r::rs=>match bQh TI s r with
  |some x=>match J2 s rs with
   |some xs=>some (x::xs)
   |none=>none
  |none=>none
abbrev Il:=List (Nat×Code×Nat×List ResultVar)
def sv2:Sv U->Option (Bool×List (Lf U))
 | .l x=>some (false,[x])
 | .a cs=>some (true,cs)
 | .t _=>none
def bEe:List (Sv U)->Option (List (Bool×List (Lf U)))
 |[]=>some []
 |x::xs=>match sv2 x with
  |some y=>match bEe xs with
   |some ys=>some (y::ys)
   |none=>none
  |none=>none
def bT8:List (Sv U)->Option (Sv U)
 |[x]=>some x
 |xs=>match bEe xs with
  |some l=>some (.t l)
  |none=>none
def inl (IL:Il)(EV:An->Code->St U->(St U->Option α)->Option α)(an:An)(o:Oper)(s:St U)(K:St U->Option α):Option α:=match o.op with
 | .call ⟨.value (.func f),b,_⟩=>match kE IL f with
  |some (c,n,rv)=>bif Nat.ble (len b.toList) n then EV an c ⟨b.toList.map (fV s)++List.replicate (n-len b.toList) (.l .any),s.m,s.fr⟩ λs'=>match J2 TI s' rv with
    |some ys=>match bT8 ys with
     |some y=>K (put ⟨s.t,s'.m,s.fr⟩ o.dst y)
     |none=>none
    |none=>none
   else none
  |none=>none
 |_=>none
def ilo:An->An
 | .il _ _ r=>ilo r
 |an=>an
def ilr (IL:Il)(EV:An->Code->St U->(St U->Option α)->Option α)(al:List Oper):List Nat->An->St U->(St U->Option α)->Option α
 |[],_,s,K=>K s
 |i::l,an,s,K=>match nth al i with
  |some o=>(match an with
   | .il k a r=>bif Nat.beq k i then(bif Nat.beq (yX FZ o.op) 2 then aY0 al o (λs=>inl TI IL EV a o s λs'=>ilr IL EV al l r s' K) s (λs'=>ilr IL EV al l r s' K) else none) else grd Y TI FZ al o s λs'=>ilr IL EV al l (.il k a r) s' K
   |an=>grd Y TI FZ al o s λs'=>ilr IL EV al l an s' K)
  |none=>none
def ilY (IL:Il)(EV:An->Code->St U->(St U->Option α)->Option α)(al:List Oper)(a0:Option Nat):List (Nat×Bool)->An->Bool->Bool->St U->(St U->Option α)->Option α
 |[],_,_,_,s,K=>K s
 |(i,fl)::l,an,pre,st,s,K=>match nth al i with
  |some o=>bif fl then(bif Nat.beq (yX FZ o.op) 0&&(aO4 o.op||st) then grd Y TI FZ al o s (λs'=>ilY IL EV al a0 l an pre st s' K) else none)
   else(match an with
    | .il k b r=>bif Nat.beq k i then(bif Nat.beq (yX FZ o.op) 2&& !(pre&& !Di a0 i) then aY0 al o (λs=>inl TI IL EV b o s λs'=>ilY IL EV al a0 l r false st s' K) s (λs'=>ilY IL EV al a0 l r false st s' K) else none)
     else grd Y TI FZ al o s (λs'=>bif !(pre&& !Di a0 i)||(Nat.ble (yX FZ o.op) 1||unO none s'.m.o) then ilY IL EV al a0 l (.il k b r) (pre&& !Di a0 i) (st&&Hg (none:Option (Nat×Nat))) s' K else none)
    |an=>grd Y TI FZ al o s (λs'=>bif !(pre&& !Di a0 i)||(Nat.ble (yX FZ o.op) 1||unO none s'.m.o) then ilY IL EV al a0 l an (pre&& !Di a0 i) (st&&Hg (none:Option (Nat×Nat))) s' K else none))
  |none=>none
def rng:Nat->Nat->List Nat
 |0,_=>[]
 |n+1,i=>i::rng n (Nat.succ i)
def plT (FZ:List (Nat×Sum U)):List (Nat×Sum U):=FZ.map λp=>(p.1,⟨p.2.ar,p.2.rs,p.2.fr&&p.2.wt,p.2.wt,p.2.m⟩)
def bI0 (IL:Il)(EV:An->Code->St U->(St U->Option α)->Option α)(al:List Oper)(os:Array Oper)(d:Bool)(an:An)(s:St U)(N:St U->Option α):Option α:=match an with
 | .il k a r=>match ilo r with
  | .y _ _ a0 ord=>bif d&&aY4 os none a0 ord then ilY Y TI FZ IL EV al a0 ord (.il k a r) true true s N else none
  |_=>match(bif d then aL2 FZ al os (ilo r) else some (rng (len al) 0)) with
   |some l=>ilr Y TI FZ IL EV al l (.il k a r) s N
   |none=>none
 | .pl a=>match a with
  | .r a0 ord=>rgn Y TI (plT FZ) al os d (.r a0 ord) s N
  |_=>rgn Y TI (plT FZ) al os d .n s N
 |an=>rgn Y TI FZ al os d an s N
def bT9:An->Bool
 | .l .. =>true
 | .s .. =>true
 |_=>false
variable (IL:Il)
def ev:Nat->An->Code->(α:Type)->St U->(St U->Option α)->(Nat->St U->Option α)->(St U->Option α)->Option α
 |0,_,_,_,_,_,_,_=>none
 |f+1, .j tm a,c,α,s,N,_,_=>bif wr tm.ws f c&&anW tm.ws a then bd (ev f a c (Dat U tm.it) s (λs'=>col Y s tm s') (λ_ _=>none) (λ_=>none)) λd=>N (reb Y s tm d) else none
 |f+1, .jx tm a,c,α,s,N,X,R=>bif wr tm.ws f c&&anW tm.ws a then nx (ev f a c (α⊕Dat U tm.it) s (λs'=>bd (col Y s tm s') λd=>some (.inr d)) (λi s'=>bd (X i s') λr=>some (.inl r)) (λs'=>bd (R s') λr=>some (.inl r))) λd=>N (reb Y s tm d) else none
 |f+1,an, .seq a b,α,s,N,X,R=>ev f an.a a α s (λs'=>ev f an.b b α s' N X R) X R
 |f+1,an, .cond c a b,α,s,N,X,R=>match c with
  | .tmp n=>tst n s (λs=>ev f an.a a α s N X R) (λs=>ev f an.b b α s N X R)
  |_=>none
 |f+1,an, .block id c,α,s,N,X,R=>ev f an.a c α s N (λi s'=>bif Nat.beq i id then N s' else X i s') R
 |f+1, .l tm n a, .loop c,α,s,_,X,R=>bif wr tm.ws f c&&anW tm.ws a then bd (col Y s tm s) (bT n λrec d=>ev f a c α (reb Y s tm d) (λs'=>bd (col Y s tm s') rec) X R) else none
 |f+1, .s a b, .loop c,α,s,N,X,R=>bif bT9 b then ev f a c α s (λs'=>ev f b (.loop c) α s' N X R) X R else none
 |_+1,_, .skip,_,s,N,_,_=>N s
 |_+1,_, .ret,_,s,_,_,R=>R s
 |_+1,_, .exit i,_,s,_,X,_=>X i s
 |f+1,an, .region _ os d,α,s,N,_,_=>bI0 Y TI FZ IL (λa c s K=>ev f a c α s K (λ_ _=>none) K) os.toList os d an s N
 |_+1,_,_,_,_,_,_,_=>none
def aGs (m:Mm U):List (Lf U)->Option (List Nat)
 |[]=>some []
 | .own i r::xs=>match nth m.o i with
  |some ⟨.tree _ d _,rv,_⟩=>bif Nat.beq rv r&&d then(match aGs m xs with
   |some l=>some (i::l)
   |none=>none) else none
  |_=>none
 |x::xs=>match x with
  | .sl .. =>none
  | .bor .. =>none
  | .inn .. =>none
  |_=>aGs m xs
def bI1 (m:Mm U):List (Sv U)->Option (List Nat)
 |[]=>some []
 |x::xs=>match parts x with
  |some cs=>match aGs m cs with
   |some l=>match bI1 m xs with
    |some l'=>some (l++l')
    |none=>none
   |none=>none
  |none=>none
def fin (fr:Bool)(ks:List Kd)(rs:List ResultVar)(s:St U):Option (rU U ks):=match J2 TI s rs with
 |some xs=>bif fr then(match bI1 s.m xs with
  |some l=>bif dist l&&aOz (U:=U) ks then nR Y s.m ks xs else none
  |none=>none) else nR Y s.m ks xs
 |none=>none
def ini (n:Nat)(ks:List Kd)(a:rU U ks):St U:=
 let l:=(cO Y ks a).map bD4
 ⟨l++List.replicate (n-len l) (.l .any),⟨[],0,[]⟩,[]⟩
def evF (an:An)(c:Code)(n:Nat)(ar rs:List Kd)(fr:Bool)(rv:List ResultVar)(a:rU U ar):Option (rU U rs):=
 ev Y TI FZ IL 1000 an c (rU U rs) (ini Y n ar a) (fin Y TI fr rs rv) (λ_ _=>none) (fin Y TI fr rs rv)
def bQi (n T:Nat)(ks:List Kd)(a:rU U (.st T::ks)):St U:=match cO Y (.st T::ks) a with
 |(_,cs)::b=>let l:=Sv.l (.box 0 0)::b.map bD4
  ⟨l++List.replicate (n-len l) (.l .any),⟨[⟨.box T cs (cs.map λ_=>0),0,0⟩],0,[]⟩,[]⟩
 |[]=>⟨[],⟨[],0,[]⟩,[]⟩
def bL4:Lf U->Bool
 | .own i _=>Nat.ble 1 i
 | .bor i _ _ _=>Nat.ble 1 i
 | .inn i _ _ _ _ _ _ _=>Nat.ble 1 i
 |_=>true
def aWm:List (Lf U)->Bool
 |[]=>true
 |x::xs=>bL4 x&&aWm xs
def bYd:Sv U->Bool
 | .l x=>bL4 x
 | .a cs=>aWm cs
 | .t _=>false
def bA0:List (Sv U)->Bool
 |[]=>true
 |x::xs=>bYd x&&bA0 xs
def bQj (T:Nat)(rs:List Kd)(rv:List ResultVar)(s:St U):Option (rU U (.st T::rs)):=match nth s.m.o 0 with
 |some ⟨.box T' cs _,_,_⟩=>match J2 TI s rv with
  |some xs=>bif Nat.beq T' T&&(aWm cs&&bA0 xs) then nR Y s.m (.st T::rs) (.a cs::xs) else none
  |none=>none
 |_=>none
def evP (an:An)(c:Code)(n T:Nat)(ks rs:List Kd)(rv:List ResultVar)(a:rU U (.st T::ks)):Option (rU U (.st T::rs)):=
 ev Y TI FZ IL 1000 an c (rU U (.st T::rs)) (bQi Y n T ks a) (bQj Y TI T rs rv) (λ_ _=>none) (bQj Y TI T rs rv)
end
end Go.EV
namespace Go.EV
open Go.RowKit Go.VK
section lists
variable {α:Type}
theorem aW:∀(l:List α) (n:Nat),nth l n=l[n]?
 |[],n=>by cases n<;>rfl
 |x::l,0=>rfl
 |x::l,n+1=>by rw[d8];exact aW l n
theorem dM:∀(l:List α) (n:Nat) (y:α),upd l n y=l.set n y
 |[],n,y=>by cases n<;>rfl
 |x::l,0,y=>rfl
 |x::l,n+1,y=>by rw[gx,<-dM l n y];rfl
def aGt:∀(l:List α) (n:Nat),drp l n=l.drop n
 |[],n=>by cases n<;>rfl
 |x::l,0=>rfl
 |x::l,n+1=>by rw[gu];exact aGt l n
def aWn:∀(l:List α) (n:Nat),tk l n=l.take n
 |[],n=>by cases n<;>rfl
 |x::l,0=>rfl
 |x::l,n+1=>by rw[iy,<-aWn l n];rfl
theorem bS:∀(l:List α),len l=l.length
 |[]=>rfl
 |x::l=>by rw[au,<-bS l];rfl
theorem Lt:∀(l:List α) (n:Nat) (vs:List α),n+vs.length<=l.length->spl l n vs=l.take n++vs++l.drop (n+vs.length)
 |[],n,vs,h=>by
  have h1:vs=[]:=ce (by simp only[bl] at h;omega);subst h1;cases n<;>rfl
 |x::l,0,vs,h=>by
  show vs++drp (x::l) (len vs)=_;rw[aGt,bS];simp
 |x::l,n+1,vs,h=>by
  show x::spl l n vs=_;rw[Lt l n vs (by simp at h;omega),show n+1+vs.length=(n+vs.length)+1 by omega];rfl
def bSs:∀{l:List α} {n:Nat} {x:α},l[n]? =some x->At l n x
 |[],n,x,h=>by simp at h
 |y::l,0,x,h=>by simp at h;subst h;exact .z
 |y::l,n+1,x,h=> .s (bSs (by simpa using h))
def aN4 {l:List (Nat×α)}{n:Nat}{x:α}(h:kE l n=some x):(n,x)∈l:=by
 induction l with
 |nil=>cases h
 |cons y l d=>
  have c:cond (Nat.beq y.1 n) (some y.2) (kE l n)=some x:=h;cases hb:Nat.beq y.1 n with
  |true=>rw[hb] at c;obtain⟨a,b⟩:=y;have:a=n:=ah hb;simp at c;subst c;subst this;exact cC
  |false=>rw[hb] at c;exact cl _ (d c)
end lists
variable {U:Uni} {Y:Lay U} {P:Program} {g:GI} {E:Env U g}
structure bN (C:Cod U) (E:Env U g) (s:St U) (a:Act) (w:World) (β:List Tr):Prop where
 hp:Hp C E s.m β w
 defers:a.defers=[]
 tsz:a.tmps.size=s.t.length
 tm:∀(n:Nat) (x:Sv U),s.t[n]? =some x->x.mean C w (E.X β) β s.m (a.tmps.getD n undef)
section
variable {C:Cod U} {s:St U} {a:Act} {w w':World} {β β':List Tr}
def bN.put (r:bN C E s a w β){d:Option Nat}{x:Sv U}{v:Value}(h:d≠none->x.mean C w (E.X β) β s.m v):bN C E (put s d x) (a.put d v) w β:=by
 cases d with
 |none=>exact r
 |some n=>
  refine⟨r.hp,r.defers,?_,λm y hm=> ?_⟩
  ·simp only[EV.put,dM,aw];simpa[Act.put] using r.tsz
  ·simp only[EV.put,dM] at hm ⊢;have b:m<s.t.length:=by have:=lt_of_some hm;simpa using this
   simp only[Act.put];by_cases hn:n<s.t.length
   ·rw[zP _ _ _ _ _ (by rw[r.tsz];exact hn)];by_cases he:n=m
    ·subst he;rw[bh hn] at hm;injection hm with hm;rw[cQ rfl,<-hm];exact h (by simp)
    ·rw[bj he] at hm;rw[dk he];exact r.tm m y hm
   ·rw[kl (by omega)] at hm;have:(a.tmps.setIfInBounds n v)=a.tmps:=by apply e8;rw[r.tsz];omega
    rw[this];exact r.tm m y hm
def bN.go (r:bN C E s a w β){m':Mm U}(h:Hp C E m' β' w')(he:Evo w w' (E.X β) (E.X β') β β' s.m m' s.m.o.length s.m.ns.length s.m.k){fr:List (List (Sv U))}:bN C E ⟨s.t,m',fr⟩ a w' β':=
 ⟨h,r.defers,r.tsz,λn x b=>Sv.aAW he (r.tm n x b)⟩
def Evo.ext (he:Ext w w'){m:Mm U}(H:Hp C E m β w):Hp C E m β w'/\Evo w w' (E.X β) (E.X β) β β m m m.o.length m.ns.length m.k:=by
 have ev:Evo w w' (E.X β) (E.X β) β β m m m.o.length m.ns.length m.k:=⟨he.size,λ_ _ h=>h,λ_ _ _ h=>he.cell h,ai _,λa i f _ h=>⟨f,h⟩,λi e t _ h1 h2=>⟨e,t,h1,h2,λ_=>⟨rfl,rfl⟩,λ_=>⟨rfl,rfl,rfl,λb hb=>he.block b (H.new i t b h2 hb).2⟩,λh=>⟨h,rfl⟩⟩⟩;refine⟨⟨H.ext.trans (Bel.aBR he),H.len,H.vers,H.cnt,λi t b h1 h2=>⟨(H.new i t b h1 h2).1,cm (H.new i t b h1 h2).2 he.size⟩,H.dist,H.nd,λi t e h1 h2=>Ob.aBG ev (H.ok i t e h1 h2) λb hb=>he.block b (H.new i t b h1 hb).2,λx c=>Sv.aAW ev (H.pin x c),λx c=> ?_,λf j=> ?_⟩,ev⟩
 ·obtain⟨h1,h2,d,l⟩:=H.prm x c;exact⟨h1,(he.block _ (ci.1 h2).1).trans h2,d,l⟩
 ·obtain⟨h1,h2,h0,d⟩:=H.fr f j;exact⟨h1,h2,bz h0 he.size,d.imp id λq=>⟨q.1.trans he,q.2⟩⟩
def bN.ext (r:bN C E s a w β)(he:Ext w w'):bN C E s a w' β:=by obtain⟨h1,h2⟩:=Evo.ext he r.hp;exact r.go h1 h2
def bL5 {X:Nat->Prop}{m:Mm U}{v:Value}{x:Lf U}(h:x.mean C w X β m v):(rsv m.ns x).mean C w X β m v:=by
 cases x with
 |nat a=>obtain⟨i,f,h1,h2,b⟩:=h;simp only[rsv,aW,h1];exact⟨h2,by simp[IntKind.min,IntKind.signed,IntKind.bits],by simpa[IntKind.max,IntKind.signed,IntKind.bits] using b⟩
 |lt a n=>obtain⟨i,f,h1,h2,b⟩:=h;simp only[rsv,aW,h1];exact h2
 |_=>exact h
theorem nZ {τ τ':Nat}{l:List (U.El τ')}{l':List (U.El τ)}(h:slq τ τ' l=some l'):τ'=τ/\HEq l l':=by
 unfold slq at h;split at h
 ·rename_i he;subst he;simp at h;subst h;exact⟨rfl,HEq.rfl⟩
 ·cases h
def bQk {τ τ':Nat}{l:List (U.El τ')}{l':List (U.El τ)}(h:slq τ τ' l=some l'):Lf.sl τ' l=Lf.sl τ l':=by obtain⟨rfl,h⟩:=nZ h;rw[ey h]
def Hp.tree (H:Hp C E s.m β w){i:Nat}{t:Tr}{e:EO U}{τ:Nat}{d:Bool}{l:List (U.El τ)}(h1:β[i]? =some t)(h2:s.m.o[i]? =some e)(b:e.ob= .tree τ d l):Ow C w (E.X β) d t.val (.sl τ l) t.all:=by have:=H.ok i t e h1 h2;rw[b] at this;obtain⟨c,xs,f,h⟩:=this;exact .sl t c f h
theorem bUa {b:Nat}{i:Nat}{t:Tr}(h1:β[i]? =some t)(h2:b∈t.all):E.X β b:= .inr (.inr ⟨t,az h1,h2⟩)
def bUb:Lf U->Option Nat
 | .own i _=>some i
 | .bor i _ _ _=>some i
 | .inn i _ _ _ _ _ _ _=>some i
 |_=>none
def Fz (β:List Tr)(Z:Nat->Prop)(x:Lf U):Prop:=∀(i:Nat) (t:Tr) (b:Nat),bUb x=some i->β[i]? =some t->b∈t.all->¬Z b
def Fz.of {Z:Nat->Prop}{x:Lf U}(h:pI x=true\/∀(i:Nat) (t:Tr) (b:Nat),β[i]? =some t->b∈t.all->¬Z b):Fz β Z x:=λi t b ho ht hb=>by
 rcases h with h|h
 ·cases x<;>first|(cases ho;done)|(cases h;done)
 ·exact h i t b ht hb
theorem aWo (H:Hp C E s.m β w){v:Value}{x y:Lf U}(hm:x.mean C w (E.X β) β s.m v)(h:tY s.m x=some y){Z:Nat->Prop}(F:∀b,Z b->E.X β b)(p:Fz β Z x):
  y.aBB=true/\Rd w Z [] v y.toV:=by
 have G:∀b,b<w.heap.size->Z b->E.X β b:=λb _ hb=>F b hb;cases x with
 |int k n=>simp only[tY,aj] at h;subst h;obtain⟨rfl,h1,h2⟩:=hm;exact⟨rfl, .int h1 h2⟩
 |bool b=>simp only[tY,aj] at h;subst h;obtain rfl:=hm;exact⟨rfl, .bool⟩
 |str z=>simp only[tY,aj] at h;subst h;obtain⟨rfl,h1⟩:=hm;exact⟨rfl, .str h1⟩
 |sl τ l=>simp only[tY,aj] at h;subst h;exact⟨rfl,Rd.conv hm (ai _) G (λ_ _ _ h=>h) (λ_ _ h=>h)⟩
 |nat a=>obtain⟨i,f,h1,rfl,o⟩:=hm;simp only[tY,aW,h1,aj] at h;subst h;exact⟨rfl, .int (by simp[IntKind.min,IntKind.signed,IntKind.bits]) (by simpa[IntKind.max,IntKind.signed,IntKind.bits] using o)⟩
 |lt a n=>obtain⟨i,f,h1,rfl,o⟩:=hm;simp only[tY,aW,h1,aj] at h;subst h;exact⟨rfl, .bool⟩
 |own i r=>
  obtain⟨_,e,t,h2,o,B⟩:=hm;simp only[tY,aW,h2] at h;obtain⟨ob,rv,cv⟩:=e;cases ob with
  |tree τ d l=>
   cases hb:Nat.beq rv r with
   |false=>simp[hb] at h
   |true=>simp only[hb,ac,aj] at h;subst h;rw[B (ah hb)];exact⟨rfl,(Hp.tree H o h2 rfl).rd F (λb hb'=>p i t b rfl o hb')⟩
  |_=>cases h
 |bor i c τ l=>
  obtain⟨_,e,t,h2,o,B⟩:=hm;simp only[tY,okv,aW,h2] at h;cases hb:Nat.beq e.cv c with
  |false=>simp[hb] at h
  |true=>simp only[hb,ac,aj] at h;subst h;refine⟨rfl,(B (ah hb)).conv (ai _) (λb _ hb'=>⟨F b hb',λI=>p i t b rfl o I hb'⟩) (λ_ _ _ h=>h) (λ_ _ h=>h)⟩
 |inn i c τ q z j τ' l=>
  obtain⟨_,e,t,h2,o,B⟩:=hm;simp only[tY,okv,aW,h2] at h;cases hb:Nat.beq e.cv c with
  |false=>simp[hb] at h
  |true=>
   simp only[hb,ac,aj] at h;subst h;obtain⟨d,L,xs,S,a2,T,Q,R,V⟩:=B (ah hb);have D:=H.ok i t e o h2;rw[S] at D;obtain⟨k1,J,k2,k3⟩:=D;obtain rfl:J=xs:=by
    rcases fF k2 with⟨b1,W,b3,_⟩|⟨b,cur,b1,_,_,_,b5,_,b7⟩
    ·rw[b3];have:=R.1;rw[W] at this;simp at this;exact this.symm
    ·rcases fF R with⟨u,_⟩|⟨b',cur',u,_,_,_,A,_,c7⟩
     ·rw[b1] at u;cases u
     ·rw[b1] at u;injection u with u;subst u;rw[b5] at A;injection A with A;injection A with A;subst A;rw[<-b7,<-c7]
   obtain⟨l1,l2,g1,g2,g3,g4⟩:=aBw (C.hlen τ) T;have O:(L.map (C.cel τ)).flatten[q.toNat*U.K τ+j]? =some (.sl τ' l):=by rw[g3,<-g4,aE (cM _ _),cT,av (lt_of_some Q)];exact Q
   have:=(k3.rd F (λb hb'=>p i t b rfl o (by simp[Tr.all,hb']))).2 _ _ _ V O;exact⟨rfl,this⟩
 |_=>cases h
def Hl (H:Hp C E s.m β w){v:Value}{x y:Lf U}(hm:x.mean C w (E.X β) β s.m v)(h:tY s.m x=some y){Z:Nat->Prop}(d:∀b,Z b->E.X β b)(c:pI x=true\/∀(i:Nat) (t:Tr) (b:Nat),β[i]? =some t->b∈t.all->¬Z b):
  y.aBB=true/\Rd w Z [] v y.toV:=aWo H hm h d (Fz.of c)
end
end Go.EV
namespace Go.EV
open Go.RowKit Go.VK
def kzB:Value->Kz->Bool
 | .int k n, .int c=>decide (k=c)&&decide (n=0)&&decide (k.min<=0)&&decide (0<=k.max)
 | .bool b, .bool=> !b
 | .string s, .str=>Nat.beq s.data.size 0
 | .slice none 0 0, .nil=>true
 |_,_=>false
def bEf:List Value->List Kz->Bool
 |[],[]=>true
 |v::vs,z::b=>kzB v z&&bEf vs b
 |_,_=>false
def fsB (P:Program)(t:Nat):Nat->List (Nat×Nat×Nat)->Bool
 |_,[]=>true
 |f,(off,ft,n)::l=>(bLm P t f off&&bIw P t f ft off&&(match P.info? ft with|some j=>j.size==n|none=>false))&&fsB P t (f+1) l
def aY5:List (Nat×Nat)->List (Nat×Nat×Nat)->Bool
 |[],[]=>true
 |(a,b)::l,(off,_,n)::l'=>Nat.beq a off&&Nat.beq b n&&aY5 l l'
 |_,_=>false
def arB (P:Program)(t k:Nat):Bool:=match P.underlying t with
 |some (.array n e)=>Nat.beq n k&&(match P.info? e with|some j=>Nat.beq j.size 1|none=>false)
 |_=>false
def bQl {P:Program}{t k j:Nat}{w:World}(h:arB P t k=true)(f:j<k)(c:Addr)(l:IntKind):(Instr.indexAt t (.pointer (some c)) (.int l (j:Int))).run P w= .ok (.pointer (some (c.add j))) w:=by
 unfold arB at h;cases b:P.underlying t with
 |none=>simp[b] at h
 |some d=>
  cases d<;>simp[b] at h;rename_i n e;obtain⟨h1,h2⟩:=h;cases hi:P.info? e with
  |none=>simp[hi] at h2
  |some i=>simp[hi] at h2;subst h1;simp[Instr.indexAt,asIntOf,run_underlying b,Instr.sureAddr,sizeOf,typeInfo,hi,h2,f]
def Gv (P:Program)(f:Field):Bool:=match P.underlying f.type with
 |some (.int _)=>true
 |some .bool=>true
 |some .string=>true
 |_=>false
def Nv (P:Program)(t:Nat):Bool:=match P.underlying t with
 |some (.int _)=>true
 |some .bool=>true
 |some .string=>true
 |some (.struct fds)=>fds.toList.all (Gv P)
 |_=>false
def bUc (P:Program)(t:Nat):Bool:=match P.underlying t with
 |some (.struct fds)=> !(fds.toList.all λf=>Nv P f.type)||(!P.eqGuardType P.depth t&&(!P.stoodInHeld t&&fds.toList.all λf=>f.name != "_"))
 |_=>true
def tiB (P:Program)(t:Nat)(i:TInfo):Bool:=
 (match i.u with
 | .int k=>(match P.underlying t with|some (.int b)=>decide (b=k)|_=>false)&&Ro P t&&Nat.beq i.k 1
 | .bool=>(match P.underlying t with|some .bool=>true|_=>false)&&Ro P t&&Nat.beq i.k 1
 | .str=>(match P.underlying t with|some .string=>true|_=>false)&&Ro P t&&Nat.beq i.k 1
 | .sl e ek eb=>slB P t e ek eb&&Ro P t&&Nat.beq i.k 1
 | .st fs=>(bIq P t i.k&&bUc P t)&&fsB P t 0 fs&&(match fs with|[]=>arB P t i.k|_=>(match aOp P t with|some l=>aY5 l fs|none=>false)))&&
 (match P.info? t with|some j=>(match j.zero with|some z=>bEf z.cells.toList i.z|none=>false)|none=>false)
def rW (P:Program)(TI:List (Nat×TInfo)):Bool:=TI.all λx=>tiB P x.1 x.2
section
variable {P:Program} {TI:List (Nat×TInfo)}
def bU (h:rW P TI=true){t:Nat}{i:TInfo}(b:kE TI t=some i):tiB P t i=true:=by have:=cG.1 h _ (aN4 b);exact this
def Ru {t:Nat}{i:TInfo}{k:IntKind}(h:tiB P t i=true)(b:i.u= .int k):P.underlying t=some (.int k)/\Ro P t=true/\i.k=1:=by
 simp only[tiB,b,ab] at h;obtain⟨⟨⟨h1,h2⟩,c⟩,_⟩:=h;refine⟨?_,h2,ah c⟩;cases hp:P.underlying t with
 |none=>simp[hp] at h1
 |some d=>cases d<;>simp[hp] at h1;subst h1;rfl
def aB2 {t:Nat}{i:TInfo}(h:tiB P t i=true)(b:i.u= .bool):P.underlying t=some .bool/\Ro P t=true/\i.k=1:=by
 simp only[tiB,b,ab] at h;obtain⟨⟨⟨h1,h2⟩,c⟩,_⟩:=h;refine⟨?_,h2,ah c⟩;cases hp:P.underlying t with
 |none=>simp[hp] at h1
 |some d=>cases d<;>simp[hp] at h1;rfl
def Lu {t:Nat}{i:TInfo}(h:tiB P t i=true)(b:i.u= .str):P.underlying t=some .string/\Ro P t=true/\i.k=1:=by
 simp only[tiB,b,ab] at h;obtain⟨⟨⟨h1,h2⟩,c⟩,_⟩:=h;refine⟨?_,h2,ah c⟩;cases hp:P.underlying t with
 |none=>simp[hp] at h1
 |some d=>cases d<;>simp[hp] at h1;rfl
def Dk {t:Nat}{i:TInfo}{e ek eb:Nat}(h:tiB P t i=true)(b:i.u= .sl e ek eb):slB P t e ek eb=true/\Ro P t=true/\i.k=1:=by simp only[tiB,b,ab] at h;exact⟨h.1.1.1,h.1.1.2,ah h.1.2⟩
def aB3 {t:Nat}{i:TInfo}{fs:List (Nat×Nat×Nat)}(h:tiB P t i=true)(b:i.u= .st fs):bIq P t i.k=true/\fsB P t 0 fs=true/\((fs≠[]/\∃l,aOp P t=some l/\aY5 l fs=true)\/(fs=[]/\arB P t i.k=true)):=by
 simp only[tiB,b,ab] at h;refine⟨h.1.1.1.1,h.1.1.2,?_⟩;cases fs with
 |nil=>exact .inr ⟨rfl,h.1.2⟩
 |cons x xs=>
  have h2:=h.1.2;cases hp:aOp P t with
  |none=>simp only[hp] at h2;cases h2
  |some l=>simp only[hp] at h2;exact .inl ⟨by simp,l,rfl,h2⟩
def bWd {t:Nat}{i:TInfo}{fs:List (Nat×Nat×Nat)}(h:tiB P t i=true)(b:i.u= .st fs):bUc P t=true:=by simp only[tiB,b,ab] at h;exact h.1.1.1.2
def aN6 {t:Nat}{i:TInfo}(h:tiB P t i=true):∃j z,P.info? t=some j/\j.zero=some z/\bEf z.cells.toList i.z=true:=by
 simp only[tiB,ab] at h;have h:=h.2;cases b:P.info? t with
 |none=>simp[b] at h
 |some j=>
  cases c:j.zero with
  |none=>simp[b,c] at h
  |some z=>simp only[b,c] at h;exact⟨j,z,rfl,c,h⟩
def aO7 {t:Nat}:∀{fs:List (Nat×Nat×Nat)} {f n off ft k:Nat},fsB P t f fs=true->fs[n]? =some (off,ft,k)->bLm P t (f+n) off=true/\bIw P t (f+n) ft off=true/\∃j,P.info? ft=some j/\j.size=k
 |[],f,n,off,ft,k,h,hn=>by simp at hn
 |(a,b,c)::fs,f,0,off,ft,k,h,hn=>by
  simp at hn;obtain⟨rfl,rfl,rfl⟩:=hn;simp only[fsB,ab] at h;refine⟨h.1.1.1,h.1.1.2,?_⟩;cases d:P.info? b with
  |none=>simp[d] at h
  |some j=>simp[d] at h;exact⟨j,rfl,h.1.2⟩
 |(a,b,c)::fs,f,n+1,off,ft,k,h,hn=>by
  simp only[fsB,ab] at h;have:=aO7 (f:=f+1) (n:=n) h.2 (by simpa using hn);rw[show f+(n+1)=f+1+n by omega];exact this
end
variable {U:Uni} {Y:Lay U} {TI:List (Nat×TInfo)} {P:Program} {g:GI} {E:Env U g}
noncomputable def lv (m:Mm U)(fr:Bool)(x:Lf U):V:=match x with
 | .nil=> .nil
 |x=>bif fr&& !pI x then .any else match tY m x with
  |some y=>y.toV
  |none=> .any
noncomputable def vw (m:Mm U)(fr:Bool):Sv U->V
 | .l x=>lv m fr x
 | .a cs=> .agg (cs.map (lv m fr))
 | .t _=> .any
section
variable {C:Cod U} {s:St U} {a:Act} {w w':World} {β β':List Tr}
def bGv (H:Hp C E s.m β w){v:Value}{x:Lf U}(hm:x.mean C w (E.X β) β s.m v)(fr:Bool){Z:Nat->Prop}(c:∀b,Z b->fr=true/\E.X β b):Rd w Z [] v (lv s.m fr x):=by
 have go:Rd w Z [] v (bif fr&& !pI x then .any else match tY s.m x with|some y=>y.toV|none=> .any):=by
  cases fr with
  |false=>
   simp only[fu,aa];cases hr:tY s.m x with
   |none=>exact .any
   |some y=>exact(Hl H hm hr (λb hb=>(c b hb).2) (.inr λ_ _ b _ _ hb=>by cases(c b hb).1)).2
  |true=>
   cases d:pI x with
   |false=>exact .any
   |true=>
    simp only[ay,dl,aa];cases hr:tY s.m x with
    |none=>exact .any
    |some y=>exact(Hl H hm hr (λb hb=>(c b hb).2) (.inl d)).2
 cases x with
 |nil=>obtain rfl:=hm;exact .nil
 |_=>exact go
noncomputable def Zf (E:Env U g)(β:List Tr)(fr:Bool)(b:Nat):Prop:=fr=true/\E.X β b
noncomputable def brE (H:Hp C E s.m β w)(fr:Bool):VK.Env P g:=⟨Zf E β fr,w,λb hb=>H.aCK b hb.2,H.gw⟩
noncomputable def brS (s:St U)(fr:Bool):VK.S:=⟨s.t.map (vw s.m fr),[]⟩
def br (r:bN C E s a w β)(fr:Bool):RelB (brE (P:=P) r.hp fr) (brS s fr) [] a w where
 ext:=Ext.refl w
 defers:=r.defers
 tsz:=by simp[brS,r.tsz]
 tmps:=λn W d=>by
  simp only[brS,bm] at d;cases e:s.t[n]? with
  |none=>simp[e] at d
  |some x=>
   simp only[e,cW,aj] at d;subst d;have hm:=r.tm n x e;have f:∀b,(brE (P:=P) r.hp fr).X [] b->fr=true/\E.X β b:=λb hb=>by
    rcases hb with hb|⟨t,ht,_⟩
    ·exact hb
    ·simp at ht
   cases x with
   |l y=>exact bGv r.hp hm fr f
   |t xs=>exact .any
   |a cs=>
    obtain⟨vs,h1,h2,h⟩:=hm;rw[h1];refine .agg (by simp[h2]) (λi v c k1 k2=> ?_);rw[bm] at k2;cases hc:cs[i]? with
    |none=>simp[hc] at k2
    |some j=>simp only[hc,cW,aj] at k2;subst k2;exact bGv r.hp (h i v j (by simpa using k1) hc) fr f
 blen:=rfl
 new:=by simp
 dist:=by simp
 objs:=by simp[brS]
def bL6 {E':VK.Env P g}{S:VK.S}{v:Value}{m:Mm U}{fr:Bool}:VK.Ev E' S (.const v) (vw m fr (bAv v)):=by
 have any:∀v,VK.Ev E' S (.const v) .any:=λv _ _ _ _=> .any;unfold bAv;split
 ·rename_i k n;cases h:bAu k n with
  |false=>cases fr<;>exact any _
  |true=>simp only[ac,vw,lv,pI,ay,dl,aa,tY,Lf.toV];refine .i ?_;simp only[bAu,ab,bp] at h;simpa using h
 ·simp only[vw,lv,pI,ay,dl,aa,tY,Lf.toV];exact .b
 ·rename_i z;cases h:Nat.ble (len z.data.toList) 1000 with
  |false=>cases fr<;>exact any _
  |true=>simp only[ac,vw,lv,pI,ay,dl,aa,tY,Lf.toV];refine .s ?_;have:=bf h;rw[bS,cI] at this;exact ak (show z.size<=1000 from this)
 ·exact .n
 ·cases fr<;>exact any _
theorem aY6 {E':VK.Env P g}{fr:Bool}{x:Operand}:VK.Ev E' (brS s fr) x (vw s.m fr (wI s x)):=by
 have any:∀x,VK.Ev E' (brS s fr) x .any:=λx _ _ _ _=> .any;cases x with
 |tmp n=>
  simp only[wI,aW];cases h:s.t[n]? with
  |none=>cases fr<;>exact any _
  |some y=>exact .t (bSs (by simp[brS,h]))
 |const v=>exact bL6
 |_=>cases fr<;>exact any _
def bEg {X:Nat->Prop}{m:Mm U}{v:Value}:(bAv v:Sv U).mean C w X β m v:=by
 unfold bAv;split
 ·rename_i k n;cases h:bAu k n with
  |false=>trivial
  |true=>simp only[bAu,ab,bp] at h;exact⟨rfl,h⟩
 ·rfl
 ·rename_i z;cases h:Nat.ble (len z.data.toList) 1000 with
  |false=>trivial
  |true=>have:=bf h;rw[bS,cI] at this;refine⟨rfl,?_⟩;have h2:z.size<=1000:=this;unfold maxLen;omega
 ·rfl
 ·trivial
def kW (r:bN C E s a w β){x:Operand}:(wI s x).mean C w (E.X β) β s.m (a.eval x):=by
 cases x with
 |tmp n=>
  simp only[wI,aW];cases h:s.t[n]? with
  |none=>trivial
  |some y=>exact r.tm n y h
 |const v=>exact bEg
 |_=>trivial
theorem zS (r:bN C E s a w β){x:Operand}:(fV s x).mean C w (E.X β) β s.m (a.eval x):=by
 have:=kW r (x:=x);unfold fV;cases h:wI s x with
 |l y=>rw[h] at this;exact bL5 this
 |_=>rw[h] at this;exact this
def bSt:Lf U->Bool
 | .int .. =>true
 | .bool _=>true
 | .str _=>true
 |_=>false
def bL7 {x:Operand}{y:Lf U}(h:fV s x= .l y)(c:bSt y=true)(fr:Bool):vw s.m fr (wI s x)=y.toV:=by
 unfold fV at h;cases ho:wI s x with
 |l z=>
  simp only[ho,Sv.l.injEq] at h;simp only[vw];cases z with
  |nat a=>
   simp only[rsv,aW] at h;cases hn:s.m.ns[a]? with
   |none=>simp only[hn] at h;subst h;cases c
   |some p=>simp only[hn] at h;subst h;simp[lv,pI,tY,aW,hn]
  |lt a n=>
   simp only[rsv,aW] at h;cases hn:s.m.ns[a]? with
   |none=>simp only[hn] at h;subst h;cases c
   |some p=>simp only[hn] at h;subst h;simp[lv,pI,tY,aW,hn]
  |int k n=>simp only[rsv] at h;subst h;simp[lv,pI,tY]
  |bool b=>simp only[rsv] at h;subst h;simp[lv,pI,tY]
  |str b=>simp only[rsv] at h;subst h;simp[lv,pI,tY]
  |_=>simp only[rsv] at h;subst h;cases c
 |_=>simp only[ho] at h;cases h
def aY7 {E':VK.Env P g}{x:Operand}{y:Lf U}(h:fV s x= .l y)(b:bSt y=true)(fr:Bool):VK.Ev E' (brS s fr) x y.toV:=by rw[<-bL7 h b fr];exact aY6
theorem eG {E':VK.Env P g}{x:Operand}{k:IntKind}{n:Int}(h:fV s x= .l (.int k n))(fr:Bool:=false):VK.Ev E' (brS s fr) x (.int k n):=aY7 h rfl fr
theorem aY8 {E':VK.Env P g}{x:Operand}{b:Bool}(h:fV s x= .l (.bool b))(fr:Bool:=false):VK.Ev E' (brS s fr) x (.bool b):=aY7 h rfl fr
def Lv {E':VK.Env P g}{x:Operand}{z:ByteArray}(h:fV s x= .l (.str z))(fr:Bool:=false):VK.Ev E' (brS s fr) x (.str z):=aY7 h rfl fr
def bSu {E':VK.Env P g}{x:Operand}{p:Lf U}{τ:Nat}{l:List (U.El τ)}(h:fV s x= .l p)(hr:tY s.m p=some (.sl τ l)):VK.Ev E' (brS s false) x (.slice (U.K τ) (l.map (U.enc τ))):=by
 have hv:vw s.m false (wI s x)= .slice (U.K τ) (l.map (U.enc τ)):=by
  unfold fV at h;cases ho:wI s x with
  |l z=>
   simp only[ho,Sv.l.injEq] at h;simp only[vw];have:tY s.m z=some (.sl τ l)/\z≠ .nil:=by
    cases z with
    |nat a=>
     simp only[rsv,aW] at h;cases hn:s.m.ns[a]? with
     |none=>simp only[hn] at h;subst h;cases hr
     |some q=>simp only[hn] at h;subst h;cases hr
    |lt a n=>
     simp only[rsv,aW] at h;cases hn:s.m.ns[a]? with
     |none=>simp only[hn] at h;subst h;cases hr
     |some q=>simp only[hn] at h;subst h;cases hr
    |nil=>simp only[rsv] at h;subst h;cases hr
    |_=>simp only[rsv] at h;subst h;exact⟨hr,by simp⟩
   cases z with
   |nil=>exact absurd rfl this.2
   |_=>simp only[lv,fu,aa,this.1,Lf.toV]
  |_=>simp only[ho] at h;cases h
 rw[<-hv];exact aY6
def bWe {E':VK.Env P g}{x:Operand}{τ:Nat}{l:List (U.El τ)}(h:fV s x= .l (.sl τ l))(fr:Bool:=true):VK.Ev E' (brS s fr) x (.slice (U.K τ) (l.map (U.enc τ))):=by
 have hv:vw s.m fr (wI s x)= .slice (U.K τ) (l.map (U.enc τ)):=by
  unfold fV at h;cases ho:wI s x with
  |l z=>
   simp only[ho,Sv.l.injEq] at h;simp only[vw];cases z with
   |nat a=>simp only[rsv,aW] at h;cases hn:s.m.ns[a]? <;>simp[hn] at h
   |lt a n=>simp only[rsv,aW] at h;cases hn:s.m.ns[a]? <;>simp[hn] at h
   |sl τ' l'=>simp only[rsv] at h;rw[h];simp[lv,pI,tY,Lf.toV]
   |_=>simp only[rsv] at h;cases h
  |_=>simp only[ho] at h;cases h
 rw[<-hv];exact aY6
def MO (P:Program)(C:Cod U)(E:Env U g)(s:St U)(a:Act)(w:World)(β:List Tr)(op:Op)(x:Sv U):Prop:=
 ∀o:Oper,o.op=op->∃v,(∀w',Ext w w'->(execOp a.eval o).run P w'= .ok (.value v) w')/\x.mean C w (E.X β) β s.m v
def bA1 (r:bN C E s a w β)(fr:Bool){op:Op}{W:V}{x:Sv U}(h:∀E':VK.Env P g,Cw E' (brS s fr) op W)(c:∀v,Rd w (Zf E β fr) [] v W->x.mean C w (E.X β) β s.m v):MO P C E s a w β op x:=λo ho=>by
 obtain⟨v,h1,h2⟩:=h _ [] a w (br (P:=P) r fr) o ho;refine⟨v,h1,c v (h2.conv (ai _) (λb _ hb=> .inl hb) (λ_ _ _ h=>h) (λ_ _ h=>h))⟩
def bWf {k:IntKind}{n:Int}{X:Nat->Prop}{Z:Nat->Prop}{m:Mm U}{v:Value}(h:Rd w Z [] v (.int k n)):(Sv.l (.int k n):Sv U).mean C w X β m v:=h.aAP
def bUd {b:Bool}{X:Nat->Prop}{Z:Nat->Prop}{m:Mm U}{v:Value}(h:Rd w Z [] v (.bool b)):(Sv.l (.bool b):Sv U).mean C w X β m v:=h.aAX
def bSv {z:ByteArray}{X:Nat->Prop}{Z:Nat->Prop}{m:Mm U}{v:Value}(h:Rd w Z [] v (.str z)):(Sv.l (.str z):Sv U).mean C w X β m v:=h.aAV
end
end Go.EV
namespace Go.EV
open Go.RowKit Go.VK
variable {U:Uni} {Y:Lay U} {TI:List (Nat×TInfo)} {P:Program} {g:GI} {E:Env U g}
section
variable {C:Cod U} {s:St U} {m:Mm U} {a:Act} {w w':World} {β β':List Tr} {X:Nat->Prop}
def aWp {i:TInfo}{cs:List (Lf U)}{off:Nat}{x:Sv U}(h:cut i cs off=some x):
  (∃fs ds,i.u= .st fs/\ds=(cs.drop off).take i.k/\ds.length=i.k/\x= .a ds)\/((∀fs,i.u≠ .st fs)/\∃y,cs[off]? =some y/\x= .l y):=by
 unfold cut at h;split at h
 ·rename_i fs b;left;simp only[aGt,aWn,bS] at h;cases hb:Nat.beq ((cs.drop off).take i.k).length i.k with
  |false=>rw[hb] at h;cases h
  |true=>simp only[hb,ac,aj] at h;exact⟨fs,_,b,rfl,ah hb,h.symm⟩
 ·rename_i b;right;refine⟨λfs he=>b fs he,?_⟩
  rw[aW] at h;cases hc:cs[off]? with
  |none=>simp[hc] at h
  |some y=>simp only[hc,aj] at h;exact⟨y,rfl,h.symm⟩
def bL8 {t:Nat}{i:TInfo}(h:tiB P t i=true)(b:∀fs,i.u≠ .st fs):Ro P t=true/\i.k=1:=by
 cases hi:i.u with
 |int k=>have:=Ru h hi;exact this.2
 |bool=>have:=aB2 h hi;exact this.2
 |str=>have:=Lu h hi;exact this.2
 |sl e ek eb=>have:=Dk h hi;exact this.2
 |st fs=>exact absurd hi (b fs)
def add_zero' (p:Addr):p.add 0=p:=by simp[Addr.add]
def aGu {S:World->Prop}{t:Nat}{i:TInfo}{p:Addr}{vs:List Value}{cs:List (Lf U)}{off:Nat}{x:Sv U}(b:tiB P t i=true)(hc:cut i cs off=some x)(f:Ms C w X β m vs (cs.drop off))
  (hcell:∀w',S w'->∀(j:Nat) (v:Value),vs[j]? =some v->w'.cell? (p.add j)=some v):
  ∃v,(∀w',S w'->(loadVar t p).run P w'= .ok v w')/\x.mean C w X β m v:=by
 rcases aWp hc with⟨fs,ds,n,h1,h2,rfl⟩|⟨n,y,h1,rfl⟩
 ·have o:=(aB3 b n).1;have hl:i.k<=vs.length:=by rw[f.1,<-h2,h1,bv];exact Nat.min_le_right _ _
  have d:(vs.take i.k).length=i.k:=by rw[bv];omega
  refine⟨.agg (vs.take i.k).toArray,λw' he=> ?_,vs.take i.k,rfl,by rw[d,h2],λj v c h q=> ?_⟩
  ·exact aK0 (by rw[d];exact o) (λj v l=>hcell w' he j v (by rw[eV] at l;split at l;exact l;cases l))
  ·rw[eV] at h;split at h
   ·rw[h1,eV] at q;split at q
    ·exact f.2 j v c h q
    ·exact absurd ‹j<i.k› ‹¬j<i.k›
   ·simp at h
 ·have ho:=(bL8 b n).1;have h0:(cs.drop off)[0]? =some y:=by rw[dT];exact h1
  have hl:0<vs.length:=by rw[f.1];exact lt_of_some h0
  have e:vs[0]? =some vs[0]:=ae hl;refine⟨vs[0],λw' he=> ?_,f.2 0 _ y e h0⟩;have:=hcell w' he 0 _ e;rw[add_zero'] at this;exact aKz ho this
def aB4 {t:Nat}{i:TInfo}{p:Addr}{vs:List Value}{cs:List (Lf U)}{off:Nat}{x:Sv U}(b:tiB P t i=true)(hc:cut i cs off=some x)(c:Ms C w X β m vs (cs.drop off))
  (hcell:∀w',Ext w w'->∀(j:Nat) (v:Value),vs[j]? =some v->w'.cell? (p.add j)=some v):
  ∃v,(∀w',Ext w w'->(loadVar t p).run P w'= .ok v w')/\x.mean C w X β m v:=aGu (S:=Ext w) b hc c hcell
def Ms.drop {vs:List Value}{cs:List (Lf U)}(h:Ms C w X β m vs cs)(n:Nat):Ms C w X β m (vs.drop n) (cs.drop n):=
 ⟨by simp[h.1],λi v c h1 h2=>h.2 (n+i) v c (by simpa using h1) (by simpa using h2)⟩
def bA2 {T k n:Nat}{t:Tr}{xs c:List Value}(h:w.ownsRow 0 T k t.val n xs)(e:w.ownsRow 0 T k t.val n c):xs=c:=by
 rcases fF h with⟨d,_,f,_⟩|⟨b,cur,d,_,_,_,i,_,j⟩
 ·rcases fF e with⟨_,_,d3,_⟩|⟨b',cur',d1,_⟩
  ·rw[f,d3]
  ·rw[d] at d1;cases d1
 ·rcases fF e with⟨d1,_⟩|⟨b',cur',d1,_,_,_,d5,_,d7⟩
  ·rw[d] at d1;cases d1
  ·rw[d] at d1;injection d1 with d1;subst d1;rw[i] at d5;injection d5 with d5;injection d5 with d5;subst d5;rw[<-j,<-d7]
def aY9 {d:Bool}{τ n:Nat}{L:List (U.El τ)}{z:U.El τ}{xs:List Value}{B:List Nat}(f:OwL C w X d xs (L.map (C.cel τ)).flatten B)(j:L[n]? =some z):
  ∃(l1 l2:List (U.El τ)) (x1 b x2:List Value) (c Bz e:List Nat),L=l1++z::l2/\l1.length=n/\xs=x1++(b++x2)/\x1.length=n*U.K τ/\b.length=U.K τ/\B=c++(Bz++e)/\
   OwL C w X d x1 (l1.map (C.cel τ)).flatten c/\OwL C w X d b (C.cel τ z) Bz/\OwL C w X d x2 (l2.map (C.cel τ)).flatten e:=by
 obtain⟨l1,l2,k,l,o,p⟩:=aBw (C.hlen τ) j;rw[o] at f;obtain⟨x1,y,c,Br,q,r,h,t⟩:=OwL.split f;obtain⟨b,x2,Bz,e,u,v,i,x⟩:=OwL.split t;exact⟨l1,l2,x1,b,x2,c,Bz,e,k,l,by rw[<-u,<-q],by rw[h.len,p],by rw[i.len,C.hlen],by rw[<-v,<-r],h,i,x⟩
def aZa (H:Hp C E m β w){i n:Nat}{t:Tr}{e:EO U}{τ:Nat}{d:Bool}{L:List (U.El τ)}{z:U.El τ}(hβ:β[i]? =some t)(ho:m.o[i]? =some e)(he:e.ob= .tree τ d L)(j:L[n]? =some z):
  ∃(l1 l2:List (U.El τ)) (x1 b x2:List Value) (f Bz h:List Nat),L=l1++z::l2/\l1.length=n/\w.ownsRow 0 τ (U.K τ) t.val L.length (x1++(b++x2))/\x1.length=n*U.K τ/\b.length=U.K τ/\t.bs=f++(Bz++h)/\
   OwL C w (E.X β) d x1 (l1.map (C.cel τ)).flatten f/\OwL C w (E.X β) d b (C.cel τ z) Bz/\OwL C w (E.X β) d x2 (l2.map (C.cel τ)).flatten h/\0<U.K τ:=by
 have c:=H.ok i t e hβ ho;rw[he] at c;obtain⟨h1,xs,h2,k⟩:=c;obtain⟨l1,l2,x1,b,x2,f,Bz,h,l,p,q,r,u,v,x,y,A⟩:=aY9 k j;exact⟨l1,l2,x1,b,x2,f,Bz,h,l,p,q▸h2,r,u,v,x,y,A,h1⟩
def bA3 {i c τ:Nat}{q:Int}{z:U.El τ}:∀(cs:List (Lf U)) (b j:Nat) (x:Lf U),(aLz i c τ q z b cs)[j]? =some x->∃y,cs[j]? =some y/\((∃τ' l,y= .sl τ' l/\x= .inn i c τ q z (b+j) τ' l)\/((∀τ' l,y≠ .sl τ' l)/\x=y))
 |[],b,j,x,h=>by simp[aLz] at h
 |y::cs,b,0,x,h=>by
  refine⟨y,rfl,?_⟩;cases y with
  |sl τ' l=>simp[aLz] at h;subst h;exact .inl ⟨τ',l,rfl,rfl⟩
  |_=>simp[aLz] at h;subst h;exact .inr ⟨by simp,rfl⟩
 |y::cs,b,j+1,x,h=>by
  have d:(aLz i c τ q z (Nat.succ b) cs)[j]? =some x:=by cases y<;>simpa[aLz] using h
  obtain⟨y',h1,h2⟩:=bA3 cs (Nat.succ b) j x d;refine⟨y',by simpa using h1,?_⟩;rw[show b+(j+1)=Nat.succ b+j by omega];exact h2
def bA4 {i c τ:Nat}{q:Int}{z:U.El τ}:∀(cs:List (Lf U)) (b:Nat),(aLz i c τ q z b cs).length=cs.length
 |[],_=>rfl
 |y::cs,b=>by cases y<;>simp[aLz,bA4 cs]
def OwL.at {d:Bool}:∀{vs:List Value} {xs:List (Lf U)} {B:List Nat},OwL C w X d vs xs B->∀(i:Nat) (v:Value) (x:Lf U),vs[i]? =some v->xs[i]? =some x->∃B',Ow C w X d v x B'/\∀b∈B',b∈B
 |_,_,_, .n,i,v,x,h,_=>by simp at h
 |_,_,_, .c h hr,i,v,x,h1,h2=>by
  cases i with
  |zero=>simp at h1 h2;subst h1;subst h2;exact⟨_,h,λb hb=>by simp[hb]⟩
  |succ i=>obtain⟨B',k1,k2⟩:=OwL.at hr i v x (by simpa using h1) (by simpa using h2);exact⟨B',k1,λb hb=>by simp[k2 b hb]⟩
def bI2 (H:Hp C E m β w){i:Nat}{q:Int}{t:Tr}{e:EO U}{τ:Nat}{d:Bool}{L:List (U.El τ)}{z:U.El τ}(hβ:β[i]? =some t)(ho:m.o[i]? =some e)(he:e.ob= .tree τ d L)(h0:0<=q)(k:L[q.toNat]? =some z):
  ∃c:List Value,Ms C w (E.X β) β m c (aLz i e.cv τ q z 0 (C.cel τ z))/\∀b,t.b=some b->∀(j:Nat) (v:Value),c[j]? =some v->w.cell? (Addr.add ⟨b,0,none⟩ (q.toNat*U.K τ+j))=some v:=by
 obtain⟨l1,l2,x1,c,x2,u,Bz,A,B,D,n,r,F,G,I,h,J,_⟩:=aZa H hβ ho he k;have p:∀(j:Nat) (v:Value),c[j]? =some v->(x1++(c++x2))[q.toNat*U.K τ+j]? =some v:=λj v f=>by
  rw[<-r,aE (cM _ _),cT,av (lt_of_some f)];exact f
 refine⟨c,⟨by rw[bA4,h.len],λj v x h1 h2=> ?_⟩,λb hb j v f=>rV n hb (p j v f)⟩;obtain⟨y,k1,k2⟩:=bA3 _ _ _ _ h2;rw[cj] at k2;obtain⟨B',k3,_⟩:=h.at j v y h1 k1;rcases k2 with⟨τ',l,rfl,rfl⟩|⟨k2,rfl⟩
 ·exact⟨⟨(H.vers i e ho).2,h.ones v (az h1)⟩,e,t,ho,hβ,λ_=>⟨d,L,_,he,h0,k,k1,n,p j v h1⟩⟩
 ·cases k3 with
  |int q1 q2=>exact⟨rfl,q1,q2⟩
  |bool=>rfl
  |str q=>exact⟨rfl,q⟩
  |fz=>exact absurd rfl (k2 _ _)
  |sl=>exact absurd rfl (k2 _ _)
  |su=>exact absurd rfl (k2 _ _)
def bGw (H:Hp C E m β w){i j τ':Nat}{q:Int}{t:Tr}{e:EO U}{τ:Nat}{L:List (U.El τ)}{z:U.El τ}{l:List (U.El τ')}{xs:List Value}{v:Value}(hβ:β[i]? =some t)(ho:m.o[i]? =some e)(he:e.ob= .tree τ true L)(k:L[q.toNat]? =some z)
  (f:(C.cel τ z)[j]? =some (.sl τ' l)) (hr:w.ownsRow 0 τ (U.K τ) t.val L.length xs) (hv:xs[q.toNat*U.K τ+j]? =some v):
  ∃(u:Tr) (ys:List Value),v=u.val/\w.ownsRow 0 τ' (U.K τ') u.val l.length ys/\OwL C w (E.X β) true ys (l.map (C.cel τ')).flatten u.bs/\∀b∈u.all,b∈t.all:=by
 obtain⟨l1,l2,x1,h,x2,A,Bz,B,D,F,n,p,r,x,G,y,I,_⟩:=aZa H hβ ho he k;have c:j<h.length:=by rw[r,<-C.hlen τ z];exact lt_of_some f
 have d:h[j]? =some v:=by rw[bA2 hr n,<-p,aE (cM _ _),cT,av c] at hv;exact hv
 obtain⟨B',k3,k4⟩:=y.at j v _ d f;cases k3 with
 |fz hd=>cases hd
 |su hd=>cases hd
 |sl u hk hown hc=>exact⟨u,_,rfl,hown,hc,λb hb=>by have:=k4 b hb;simp[Tr.all,x,this]⟩
def bSw {u:Tr}{b c d:Nat}(h:u.val= .slice (some ⟨b,0,none⟩) c d):u.b=some b:=by
 cases hb:u.b with
 |none=>simp[Tr.val,hb] at h
 |some k=>simp[Tr.val,hb] at h;rw[h.1]
def bA5 {i c:Nat}:∀(cs:List (Lf U)) (j:Nat) (x:Lf U),(aL0 i c cs)[j]? =some x->∃y,cs[j]? =some y/\((∃τ l,y= .sl τ l/\x= .bor i c τ l)\/((∀τ l,y≠ .sl τ l)/\x=y))
 |[],j,x,h=>by simp[aL0] at h
 |y::cs,0,x,h=>by
  refine⟨y,rfl,?_⟩;cases y with
  |sl τ l=>simp[aL0] at h;subst h;exact .inl ⟨τ,l,rfl,rfl⟩
  |_=>simp[aL0] at h;subst h;exact .inr ⟨by simp,rfl⟩
 |y::cs,j+1,x,h=>by
  have b:(aL0 i c cs)[j]? =some x:=by cases y<;>simpa[aL0] using h
  obtain⟨y',h1,h2⟩:=bA5 cs j x b;exact⟨y',by simpa using h1,h2⟩
def bA6 {i c:Nat}:∀(cs:List (Lf U)),(aL0 i c cs).length=cs.length
 |[]=>rfl
 |y::cs=>by cases y<;>simp[aL0,bA6 cs]
def Hm {i c:Nat}(h:okv m i c=true):∃e,m.o[i]? =some e/\e.cv=c:=by
 unfold okv at h;rw[aW] at h;cases he:m.o[i]? with
 |none=>simp[he] at h
 |some e=>simp only[he] at h;exact⟨e,rfl,ah h⟩
def aZb (r:bN C E s a w β){t k j i off:Nat}{y:Lf U}{v:Value}(c:IntKind)(d:arB P t k=true)(f:j<k)(hm:(Lf.box i off:Lf U).mean C w (E.X β) β s.m v)(h:vX s.m j (.box i off)=some y):
  ∃v',(∀w':World,(Instr.indexAt t v (.int c (j:Int))).run P w'= .ok v' w')/\y.mean C w (E.X β) β s.m v':=by
 simp only[vX,aW] at h;obtain⟨_,e,tr,h1,h2,l⟩:=hm;simp only[h1] at h;obtain⟨ob,rv,cv⟩:=e;cases ob with
 |box T cs n=>simp only[aj] at h;subst h;obtain⟨b,o,rfl⟩:=l rfl;refine⟨_,λw'=>bQl d f _ c,⟨rfl,⟨.box T cs n,rv,cv⟩,tr,h1,h2,λ_=>⟨b,o,by rw[iC]⟩⟩⟩
 |_=>cases h
def aB5 (r:bN C E s a w β){t f:Nat}{off:Nat}{x y:Lf U}{v:Value}(n:bLm P t f off=true)(hm:x.mean C w (E.X β) β s.m v)(h:vX s.m off x=some y):
  ∃v',(∀w':World,(Instr.fieldAt t v f).run P w'= .ok v' w')/\y.mean C w (E.X β) β s.m v':=by
 cases x with
 |box i o=>
  simp only[vX,aW] at h;obtain⟨_,e,tr,h1,h2,u⟩:=hm;simp only[h1] at h;obtain⟨ob,rv,cv⟩:=e;cases ob with
  |box T cs A=>simp only[aj] at h;subst h;obtain⟨b,B,rfl⟩:=u rfl;refine⟨_,λw'=>aOm n _,⟨rfl,⟨.box T cs A,rv,cv⟩,tr,h1,h2,λ_=>⟨b,B,by rw[iC]⟩⟩⟩
  |_=>cases h
 |ptr τ z o=>
  simp only[vX,aj] at h;subst h;have k:Rd w (E.X β) [] v (.elem ((U.enc τ z).drop o)):=hm;cases v with
  |pointer p=>
   cases k with
   | @elem _ D _ val hX hb hcell hrd=>
    refine⟨.pointer (some (D.add off)),λw'=>aOm n _,?_⟩;show Rd w (E.X β) [] _ (.elem ((U.enc τ z).drop (o+off)));refine .elem (val:=λj=>val (off+j)) (by rw[add_block];exact hX) (by rw[add_block];exact hb) (λj d l=> ?_) (λj d l=> ?_)
    ·rw[add_add'];exact hcell _ d (by rw[dT] at l ⊢;rw[<-gm];exact l)
    ·exact hrd _ d (by rw[dT] at l ⊢;rw[<-gm];exact l)
  |_=>cases k
 |oel i c τ q z o=>
  simp only[vX] at h;cases hv:okv s.m i c with
  |false=>simp[hv] at h
  |true=>simp only[hv,ac,aj] at h;subst h;obtain⟨h0,e,tr,h1,h2,u⟩:=hm;obtain⟨e',k1,k2⟩:=Hm hv;rw[h1] at k1;injection k1 with k1;subst k1;obtain⟨d,L,b,F,G,H,I,rfl⟩:=u k2;refine⟨_,λw'=>aOm n _,⟨⟨h0.1,rfl⟩,e,tr,h1,h2,λ_=>⟨d,L,b,F,G,H,I,by rw[iC,gm]⟩⟩⟩
 |_=>cases h
def aWq (r:bN Y.C E s a w β){t:Nat}{i:TInfo}(f:tiB P t i=true){x:Lf U}{y:Sv U}{v:Value}(hm:x.mean Y.C w (E.X β) β s.m v)(h:load Y s i x=some y):
  ∃p v',v= .pointer (some p)/\(∀w',Ext w w'->(loadVar t p).run P w'= .ok v' w')/\y.mean Y.C w (E.X β) β s.m v':=by
 cases x with
 |box b o=>
  simp only[load,aW] at h;obtain⟨_,e,tr,h1,h2,G⟩:=hm;simp only[h1] at h;have Q:=r.hp.ok b tr e h2 h1;obtain⟨ob,rv,cv⟩:=e;cases ob with
  |box T cs us=>
   obtain⟨D,h4,rfl⟩:=G rfl;obtain⟨_,b',vs,k1,k2,k3,k4⟩:=Q;rw[h4] at k1;injection k1 with k1;subst k1;obtain⟨v',q1,q2⟩:=aB4 (P:=P) (p:=⟨D,o,none⟩) f h (k4.drop o) (λw' he j u A=>by
    rw[iC,cell_of_row w' D (o+j) _ T (0,0) (he.heap k3)];simpa using A)
   exact⟨_,v',rfl,q1,q2⟩
  |_=>cases h
 |ptr τ z o=>
  simp only[load] at h;have H:Rd w (E.X β) [] v (.elem ((U.enc τ z).drop o)):=hm;cases v with
  |pointer p=>
   cases H with
   | @elem _ ad _ val hX hb hcell hrd=>
    have hlen:((List.range ((Y.C.cel τ z).drop o).length).map val).length=((Y.C.cel τ z).drop o).length:=by simp
    obtain⟨v',q1,q2⟩:=aB4 (P:=P) (p:=ad) (vs:=(List.range ((Y.C.cel τ z).drop o).length).map val) f h (m:=s.m) (C:=Y.C) (w:=w) (X:=E.X β) (β:=β) ⟨hlen,λj u c h5 R=>by
      have B:=lt_of_some R;simp only[bm,dx B,cW,aj] at h5;subst h5;have hd:((U.enc τ z).drop o)[j]? =some c.toV:=by rw[<-Y.C.hcel,<-fL,bm,R];rfl
      have hr:=hrd j _ hd;have hdat:=Y.C.hdat τ z c (dq (az R));cases c with
      |int k n=>exact hr.aAP
      |bool b=>exact hr.aAX
      |str b=>exact hr.aAV
      |sl τ' l=>exact hr
      |_=>cases hdat⟩ (λw' he j u A=>by
      have B:j<((Y.C.cel τ z).drop o).length:=by have:=lt_of_some A;rw[hlen] at this;exact this
      simp only[bm,dx B,cW,aj] at A;subst A;exact he.cell (hcell j (((U.enc τ z).drop o)[j]'(by rw[<-Y.C.hcel,<-fL,bg];exact B)) (ae _)))
    exact⟨_,v',rfl,q1,q2⟩
  |_=>cases H
 |oel b c τ q z o=>
  simp only[load] at h;cases hv:okv s.m b c with
  |false=>simp[hv] at h
  |true=>
   simp only[hv,ac] at h;obtain⟨h0,e,tr,h1,h2,G⟩:=hm;obtain⟨e',k1,k2⟩:=Hm hv;rw[h1] at k1;injection k1 with k1;subst k1;subst k2;obtain⟨d,L,D,S,a2,V,W,rfl⟩:=G rfl;obtain⟨xz,m1,m2⟩:=bI2 r.hp h2 h1 S a2 V;obtain⟨v',q1,q2⟩:=aB4 (P:=P) (p:=⟨D,q.toNat*U.K τ+o,none⟩) f h (m1.drop o) (λw' he j u A=>by
    have:=he.cell (m2 D W (o+j) u (by simpa using A));rw[iC] at this ⊢;rw[show q.toNat*U.K τ+o+j=0+(q.toNat*U.K τ+(o+j)) by omega];exact this)
   exact⟨_,v',rfl,q1,q2⟩
 |oin b c τ q z j τ' l q' z' o=>
  simp only[load] at h;cases hv:okv s.m b c with
  |false=>simp[hv] at h
  |true=>
   simp only[hv,ac] at h;obtain⟨h0,e,tr,h1,h2,G⟩:=hm;obtain⟨e',k1,k2⟩:=Hm hv;rw[h1] at k1;injection k1 with k1;subst k1;subst k2;obtain⟨L,xs,v0,D,n',c',S,a2,V,W,a5,a6,a7,a8,a9,rfl⟩:=G rfl;obtain⟨u,ys,b1,b2,b3,b4⟩:=bGw r.hp h2 h1 S V W a5 a6;have hub:u.b=some D:=bSw (b1.symm.trans a7);obtain⟨l1,l2,x1,xz,x2,B1,Bz,B2,g1,g2,g3,g4,g5,g6,o1,O,o3⟩:=aY9 b3 a9;have m1:Ms Y.C w (E.X β) β s.m xz (aL0 b e.cv (Y.C.cel τ' z')):=⟨by rw[bA6,O.len],λF v x f1 f2=>by
    obtain⟨y,f3,I⟩:=bA5 _ _ _ f2;obtain⟨B',f5,f6⟩:=O.at F v y f1 f3;rcases I with⟨τ2,l2,rfl,rfl⟩|⟨I,rfl⟩
    ·exact⟨⟨(r.hp.vers b e h1).2,O.ones v (az f1)⟩,e,tr,h1,h2,λ_=>(O.rd (Z:=λb=>E.X β b/\b∉tr.all) (λb hb'=>hb'.1) (λb hb' hn=>hn.2 (b4 b (by simp[Tr.all,g6,hb'])))).2 F v _ f1 f3⟩
    ·cases f5 with
     |int q1 q2=>exact⟨rfl,q1,q2⟩
     |bool=>rfl
     |str q=>exact⟨rfl,q⟩
     |fz=>exact absurd rfl (I _ _)
     |sl=>exact absurd rfl (I _ _)
     |su=>exact absurd rfl (I _ _)⟩
   obtain⟨v',q1,q2⟩:=aB4 (P:=P) (p:=⟨D,q'.toNat*U.K τ'+o,none⟩) f h (m1.drop o) (λw' he F u' A=>by
    have hx:ys[q'.toNat*U.K τ'+(o+F)]? =some u':=by
     have J:xz[o+F]? =some u':=by simpa using A
     rw[g3,<-g4,aE (cM _ _),cT,av (lt_of_some J)];exact J
    have:=he.cell (rV b2 hub hx);rw[iC] at this ⊢;rw[show q'.toNat*U.K τ'+o+F=0+(q'.toNat*U.K τ'+(o+F)) by omega];exact this)
   exact⟨_,v',rfl,q1,q2⟩
 |_=>cases h
end
end Go.EV
namespace Go.EV
open Go.RowKit Go.VK
variable {U:Uni} {Y:Lay U} {TI:List (Nat×TInfo)} {P:Program} {g:GI} {E:Env U g}
section
variable {s:St U} {m:Mm U} {a:Act} {w w':World} {β β':List Tr} {X:Nat->Prop}
def oC {x:Operand}(r:bN Y.C E s a w β){y:Lf U}(h:fV s x= .l y):y.mean Y.C w (E.X β) β s.m (a.eval x):=by have:=zS r (x:=x);rw[h] at this;exact this
def bUe {x:Operand}(r:bN Y.C E s a w β){cs:List (Lf U)}(h:wI s x= .a cs):∃vs:List Value,a.eval x= .agg vs.toArray/\Ms Y.C w (E.X β) β s.m vs cs:=by have:=kW r (x:=x);rw[h] at this;exact this
def bL9 {x:Operand}{cs:List (Lf U)}(h:fV s x= .a cs):wI s x= .a cs:=by
 unfold fV at h;cases ho:wI s x with
 |l y=>simp[ho] at h
 |a ds=>simp only[ho] at h;exact h
 |t xs=>simp[ho] at h
def bWg {x:Operand}{xs:List (Bool×List (Lf U))}(h:fV s x= .t xs):wI s x= .t xs:=by
 unfold fV at h;cases ho:wI s x with
 |l y=>simp[ho] at h
 |a ds=>simp[ho] at h
 |t xs=>simp only[ho] at h;exact h
def aO8 {v:Value}{x:Lf U}(hm:x.mean Y.C w X β m v)(h:bLw x=true):v.oneCell'=true:=by
 cases x with
 |int=>obtain⟨rfl,_⟩:=hm;rfl
 |bool=>obtain rfl:=hm;rfl
 |str=>obtain⟨rfl,_⟩:=hm;rfl
 |nat=>obtain⟨_,_,_,rfl,_⟩:=hm;rfl
 |lt=>obtain⟨_,_,_,rfl,_⟩:=hm;rfl
 |sl τ l=>exact Rd.one hm rfl
 |nil=>obtain rfl:=hm;rfl
 |own=>exact hm.1.2
 |bor=>exact hm.1.2
 |inn=>exact hm.1.2
 |oel=>exact hm.1.2
 |oin=>exact hm.1.2
 |suf=>exact hm.1.2
 |box=>exact hm.1
 |ptr τ z off=>have b:Rd w X [] v (.elem ((U.enc τ z).drop off)):=hm;exact Rd.one b rfl
 |und=>cases h
 |any=>cases h
def aZc:∀{cs:List (Lf U)},Hf cs=true->∀c∈cs,bLw c=true
 |[],_,c,hc=>by simp at hc
 |x::xs,h,c,hc=>by
  simp only[Hf,ab] at h;rcases ba.1 hc with rfl|hc
  ·exact h.1
  ·exact aZc h.2 c hc
def zT {v:Value}{x:Sv U}{ps:List (Lf U)}(hm:x.mean Y.C w X β m v)(hp:parts x=some ps)(h1:Hf ps=true):Ms Y.C w X β m v.cells.toList ps/\∀u∈v.cells.toList,u.oneCell'=true:=by
 have key:∀{vs:List Value},Ms Y.C w X β m vs ps->∀u∈vs,u.oneCell'=true:=λ{vs} b u j=>by
  obtain⟨i,hi⟩:=cV.1 j;have d:i<ps.length:=by rw[<-b.1];exact lt_of_some hi
  exact aO8 (b.2 i u _ hi (ae d)) (aZc h1 _ (cb d))
 cases x with
 |l y=>
  simp only[parts,aj] at hp;subst hp;have ho:=aO8 (Y:=Y) (m:=m) (β:=β) hm (aZc h1 y (by simp));rw[Xv ho];have b:Ms Y.C w X β m [v] [y]:=⟨rfl,λi u c f h=>by
   cases i with
   |zero=>simp at f h;subst f;subst h;exact hm
   |succ i=>simp at f⟩
  exact⟨b,key b⟩
 |a cs=>simp only[parts,aj] at hp;subst hp;obtain⟨vs,rfl,b⟩:=hm;have e:(Value.agg vs.toArray).cells.toList=vs:=rfl;rw[e];exact⟨b,key b⟩
 |t xs=>cases hp
def bGx:∀{l:List (Nat×Nat)} {fs:List (Nat×Nat×Nat)} {n:Nat} {off ft k:Nat},aY5 l fs=true->fs[n]? =some (off,ft,k)->l[n]? =some (off,k)
 |[],[],n,off,ft,k,_,h=>by simp at h
 |[],_::_,n,off,ft,k,h,_=>by cases h
 |_::_,[],n,off,ft,k,h,_=>by cases h
 |(x,y)::l,(o,f,c)::fs,0,off,ft,k,h,hn=>by
  simp only[aY5,ab] at h;simp at hn;obtain⟨rfl,rfl,rfl⟩:=hn;rw[ah h.1.1,ah h.1.2];rfl
 |(x,y)::l,(o,f,c)::fs,n+1,off,ft,k,h,hn=>by
  simp only[aY5,ab] at h;simpa using bGx h.2 (by simpa using hn)
def bA7 (r:bN Y.C E s a w β){pls:List (Nat×Nat)}{fs:List (Nat×Nat×Nat)}(hp:aY5 pls fs=true):∀{xs:List (Nat×Operand)} {cs ds:List (Lf U)},bD5 s fs xs cs=some ds->
  ∀cells:Array Value,Ms Y.C w (E.X β) β s.m cells.toList cs->∃res,Instr.fill (λi=>pls.toArray[i]?) cells (xs.map λ(i,x)=>(i,a.eval x))=some res/\Ms Y.C w (E.X β) β s.m res.toList ds
 |[],cs,ds,h,cells,p=>by
  simp only[bD5,aj] at h;subst h;exact⟨cells,rfl,p⟩
 |(f,x)::xs,cs,ds,h,cells,p=>by
  simp only[bD5,fld,aW] at h;cases t:fs[f]? with
  |none=>simp[t] at h
  |some q=>
   obtain⟨off,ft,n⟩:=q;cases d:parts (wI s x) with
   |none=>simp[t,d] at h
   |some ps=>
    simp only[t,d] at h;cases hb:(Nat.beq (len ps) n&&Nat.ble (off+n) (len cs)&&Hf ps) with
    |false=>rw[hb] at h;cases h
    |true=>
     rw[hb] at h;simp only[ac] at h;simp only[ab,bS] at hb;obtain⟨⟨b1,A⟩,B⟩:=hb;have b1:=ah b1;have A:=bf A;have l:=(zT (kW r (x:=x)) d B).1;have e:cells.size=cs.length:=by have:=p.1;simpa using this
     have hsz:(a.eval x).cells.toList.length=n:=by rw[l.1,b1]
     have o:=aBs off (a.eval x).cells.toList 0 cells (by rw[hsz,e];omega);rw[Lt _ _ _ (by rw[b1];omega)] at h;obtain⟨res,D,F⟩:=bA7 r hp h ((((a.eval x).cells.toList.zipIdx 0).foldl (λcs (u,j)=>cs.setIfInBounds (off+j) u) cells)) ⟨by
       have:=o.1;simp only[cI,this,e,ax,bv,cz];omega,λj v c G k=>by
       have b:(((a.eval x).cells.toList.zipIdx 0).foldl (λcs (u,j)=>cs.setIfInBounds (off+j) u) cells)[j]? =some v:=by simpa using G
       rw[o.2] at b;rw[Ll _ _ _ _ (by rw[b1];omega)] at k;simp only[eg,hsz] at b;rw[b1] at k;split at b
       ·rename_i y;rw[cQ y] at k;exact l.2 _ v c b k
       ·rename_i y;rw[dk y] at k;exact p.2 j v c (by simpa using b) k⟩
     refine⟨res,?_,F⟩;simp only[bo,Instr.fill];have hg:pls.toArray[f]? =some (off,n):=by simpa using bGx hp t
     rw[hg];simp only;have z:(a.eval x).cells.size=n:=by rw[<-hsz];simp
     rw[dk (by simp only[z,e];simp;omega)];rw[<-jf,ja];exact D
def bGy {v:Value}{z:Kz}(h:kzB v z=true):(z.lf:Lf U).mean Y.C w X β m v:=by
 unfold kzB at h;split at h
 ·simp only[ab,bp] at h;obtain⟨⟨⟨rfl,rfl⟩,h1⟩,h2⟩:=h;exact⟨rfl,h1,h2⟩
 ·rename_i b;have:b=false:=by simpa using h
  subst this;rfl
 ·rename_i b;have hs:b.data.size=0:=ah h;have hb:b=⟨#[]⟩:=by
   cases b with
   |mk d=>have hd:d= #[]:=Array.eq_empty_of_size_eq_zero hs;rw[hd]
  subst hb;exact⟨rfl,by decide⟩
 ·rfl
 ·cases h
def Rv:∀{vs:List Value} {b:List Kz},bEf vs b=true->Ms Y.C w X β m vs (b.map (Kz.lf:Kz->Lf U))
 |[],[],_=>⟨rfl,by simp⟩
 |[],_::_,h=>by cases h
 |_::_,[],h=>by cases h
 |v::vs,z::b,h=>by
  simp only[bEf,ab] at h;have d:=Rv h.2;refine⟨by simp[d.1],λi u c h1 h2=> ?_⟩
  cases i with
  |zero=>simp at h1 h2;subst h1;subst h2;exact bGy h.1
  |succ i=>exact d.2 i u c (by simpa using h1) (by simpa using h2)
def uZ {C:Cod U}{v:Value}{x:Bool×List (Lf U)}(h:Mp C w X β m v x):(bD4 x).mean C w X β m v:=by
 obtain⟨b,cs⟩:=x;cases b with
 |false=>obtain⟨c,rfl,h⟩:=h;exact h
 |true=>exact h
def aO9 {t:Nat}{i:TInfo}{vs:List Value}{cs:List (Lf U)}{off:Nat}{x:Sv U}(b:tiB P t i=true)(hc:cut i cs off=some x)(e:Ms Y.C w X β m vs cs):
  ∃v,(∀w',(part t vs.toArray off).run P w'= .ok v w')/\x.mean Y.C w X β m v:=by
 rcases aWp hc with⟨fs,ds,h,h1,h2,rfl⟩|⟨h,y,h1,rfl⟩
 ·have d:=(aB3 b h).1;have hl:i.k<=vs.length-off:=by rw[e.1,<-h2,h1,bv,cz];exact Nat.min_le_right _ _
  refine⟨.agg (vs.toArray.extract off (off+i.k)),λw'=> ?_,(vs.drop off).take i.k,?_,?_,λj v c f l=> ?_⟩
  ·have n:=(zQ (w:=w') d).1;have o:=(zQ (w:=w') d).2;simp[part,n,o]
  ·congr 1;apply Array.ext';simp[List.extract,cT]
  ·rw[h2,bv,cz];omega
  ·rw[eV] at f;split at f
   ·rw[h1,eV] at l;split at l
    ·exact e.2 (off+j) v c (by simpa using f) (by simpa using l)
    ·exact absurd ‹j<i.k› ‹¬j<i.k›
   ·simp at f
 ·have ho:=(bL8 b h).1;have hl:off<vs.length:=by rw[e.1];exact lt_of_some h1
  exact⟨vs[off],λw'=>aBt ho (by simp[hl]),e.2 off _ y (ae hl) h1⟩
end
end Go.EV
namespace Go.EV
open Go.RowKit Go.VK
variable {U:Uni} {Y:Lay U} {TI:List (Nat×TInfo)} {P:Program} {g:GI} {E:Env U g}
section
variable {s:St U} {a:Act} {w:World} {β:List Tr} {α:Type}
theorem mJ (r:bN Y.C E s a w β){op:Op}{k:IntKind}{n:Int}(h:∀E':VK.Env P g,Cw E' (brS s false) op (.int k n)):MO P Y.C E s a w β op (.l (.int k n)):=bA1 r false h (λv hv=>bWf hv)
theorem oV (r:bN Y.C E s a w β){op:Op}{b:Bool}(h:∀E':VK.Env P g,Cw E' (brS s false) op (.bool b)):MO P Y.C E s a w β op (.l (.bool b)):=bA1 r false h (λv hv=>bUd hv)
def aZd (r:bN Y.C E s a w β){op:Op}{z:ByteArray}(h:∀E':VK.Env P g,Cw E' (brS s false) op (.str z)):MO P Y.C E s a w β op (.l (.str z)):=bA1 r false h (λv hv=>bSv hv)
theorem aPa (r:bN Y.C E s a w β){b:BinOp}{t u:TypeId}{x y:Operand}{k:IntKind}{m n:Int}{z:Lf U}(c:fV s x= .l (.int k m))(d:fV s y= .l (.int k n))(h:bP8 b k m n=some z):MO P Y.C E s a w β (.binOp b t x y u) (.l z):=by
 cases b<;>simp only[bP8,aj,reduceCtorEq] at h<;>subst h
 ·grind[mJ,add,eG]
 ·grind[mJ,sub,eG]
 ·grind[mJ,mul,eG]
 ·grind[mJ,bT1,eG]
 ·grind[mJ,bWa,eG]
 ·grind[mJ,bT2,eG]
 ·exact oV r λ_=>eql (eG c) (eG d)
 ·exact oV r λ_=>neq (eG c) (eG d)
 ·exact oV r λ_=>lss (eG c) (eG d)
 ·exact oV r λ_=>leq (eG c) (eG d)
 ·exact oV r λ_=>gtr (eG c) (eG d)
 ·exact oV r λ_=>geq (eG c) (eG d)
theorem aPb (r:bN Y.C E s a w β){b:BinOp}{t u:TypeId}{x y:Operand}{m n:ByteArray}{z:Lf U}(c:fV s x= .l (.str m))(d:fV s y= .l (.str n))(h:bP9 b m n=some z):MO P Y.C E s a w β (.binOp b t x y u) (.l z):=by
 cases b<;>simp only[bP9,aj,reduceCtorEq] at h<;>subst h
 ·exact oV r (by simp_all[bXs,Lv])
 ·exact oV r (by simp_all[sne,Lv])
def bMa {i off ft n:Nat}{fs:List (Nat×Nat×Nat)}{c d:Lf U}{cs ds:List (Lf U)}{z:Bool}(h:eqQ TI i ((off,ft,n)::fs) (c::cs) (d::ds)=some z):off=i/\∃r,eqQ TI (Nat.succ i) fs cs ds=some r/\
  ((∃k k1 b q m n,kE TI ft=some ⟨.int q,k1,b⟩/\c= .int k m/\d= .int k n/\z=(m==n&&r))\/(∃k1 b m n,kE TI ft=some ⟨.bool,k1,b⟩/\c= .bool m/\d= .bool n/\z=(m==n&&r))\/(∃k1 b m n,kE TI ft=some ⟨.str,k1,b⟩/\c= .str m/\d= .str n/\z=(m.toList==n.toList&&r))):=by
 grind[Nat.beq,Nat.eq_of_beq_eq_true,k1,inl,Option.some.inj,eqQ]
def bMb {D:Nat}{w w':World}{C:Cod U}{X:Nat->Prop}{β:List Tr}{m:Mm U}(hTI:rW P TI=true){xs ys:Array Value}:∀{fs:List (Nat×Nat×Nat)} {fds:List Field} {i:Nat} {cs ds:List (Lf U)} {z:Bool},fds.length=fs.length->
  (∀(j:Nat) (fd:Field) (q:Nat×Nat×Nat),fds[j]? =some fd->fs[j]? =some q->fd.type=q.2.1/\fd.offset=q.1)->
  (∀(j:Nat) (c:Lf U),cs[j]? =some c->∃v,xs[i+j]? =some v/\c.mean C w X β m v)->(∀(j:Nat) (c:Lf U),ds[j]? =some c->∃v,ys[i+j]? =some v/\c.mean C w X β m v)->
  eqQ TI i fs cs ds=some z->fds.all (Gv P)=true/\((fds.all λf=>f.name != "_")=true->(Op.eqFields (D+1) xs ys fds).run P w'= .ok z w')
 |[],fds,i,cs,ds,z,hl,_,_,_,he=>by
  have h1:fds=[]:=gS.1 hl;subst h1;cases cs<;>cases ds<;>first|(simp only[eqQ,aj] at he;subst he;exact⟨rfl,λ_=>bGo⟩)|cases he
 |(off,ft,n)::fs,[],i,cs,ds,z,hl,_,_,_,_=>by cases hl
 |(off,ft,n)::fs,fd::fds,i,[],ds,z,_,_,_,_,he=>by cases ds<;>cases he
 |(off,ft,n)::fs,fd::fds,i,c::cs,[],z,_,_,_,_,he=>by cases he
 |(off,ft,n)::fs,fd::fds,i,c::cs,d::ds,z,hl,hfd,hx,hy,he=>by
  obtain⟨h1,r,hr,hcase⟩:=bMa he;obtain⟨k1,k2⟩:=hfd 0 fd (off,ft,n) rfl rfl;have ho:fd.offset=i:=k2.trans h1;obtain⟨v,x1,x2⟩:=hx 0 c rfl;obtain⟨u,y1,y2⟩:=hy 0 d rfl;rw[eg] at x1 y1;obtain⟨g1,g2⟩:=bMb (D:=D) (w':=w') hTI (fs:=fs) (fds:=fds) (i:=Nat.succ i) (by simpa using hl) (λj fd q a b=>hfd (j+1) fd q (by simpa using a) (by simpa using b))
   (λj c h=>by have:=hx (j+1) c (by simpa using h);rwa [show i+(j+1)=Nat.succ i+j by omega] at this) (λj c h=>by have:=hy (j+1) c (by simpa using h);rwa [show i+(j+1)=Nat.succ i+j by omega] at this) hr
  have fin:∀{q:Bool},Gv P fd=true->Ro P fd.type=true->(Op.equalIn (D+1) fd.type v u).run P w'= .ok q w'->z=(q&&r)->(fd::fds).all (Gv P)=true/\(((fd::fds).all λf=>f.name != "_")=true->(Op.eqFields (D+1) xs ys (fd::fds)).run P w'= .ok z w'):=λa1 a2 a3 a4=>by
   refine⟨by rw[gE,a1,g1];rfl,λhn=> ?_⟩;rw[gE,ab] at hn;rw[a4];exact bLt hn.1 a2 (by rw[ho];exact x1) (by rw[ho];exact y1) a3 (g2 hn.2)
  have k1:fd.type=ft:=k1;rcases hcase with⟨k,j1,z1,q,m,n,hf,rfl,rfl,hz⟩|⟨j1,z1,m,n,hf,rfl,rfl,hz⟩|⟨j1,z1,m,n,hf,rfl,rfl,hz⟩
  ·obtain⟨t1,t2,_⟩:=Ru (bU hTI hf) rfl;obtain⟨rfl,_⟩:=x2;obtain⟨rfl,_⟩:=y2;exact fin (by simp[Gv,k1,t1]) (by rw[k1];exact t2) (by rw[k1];exact run_equalIn_int w' D _ _ _ _ _ t1) hz
  ·obtain⟨t1,t2,_⟩:=aB2 (bU hTI hf) rfl;obtain rfl:=x2;obtain rfl:=y2;exact fin (by simp[Gv,k1,t1]) (by rw[k1];exact t2) (by rw[k1];exact run_equalIn_bool' w' D _ _ _ t1) hz
  ·obtain⟨t1,t2,_⟩:=Lu (bU hTI hf) rfl;obtain⟨rfl,_⟩:=x2;obtain⟨rfl,_⟩:=y2;exact fin (by simp[Gv,k1,t1]) (by rw[k1];exact t2) (by rw[k1];exact run_equalIn_string w' D _ _ _ t1) hz
def bA8 {P:Program}:∀{fs:List Field} {l:List (Nat×Nat)},aYz P fs=some l->l.length=fs.length
 |[],l,h=>by simp[aYz] at h;subst h;rfl
 |f::fs,l,h=>by
  simp only[aYz] at h;split at h
  ·rename_i i l' _ h2;have:=aq h;subst this;simp[bA8 h2]
  ·cases h
def bA9:∀{l:List (Nat×Nat)} {fs:List (Nat×Nat×Nat)},aY5 l fs=true->l.length=fs.length
 |[],[],_=>rfl
 |[],_::_,h=>by cases h
 |_::_,[],h=>by cases h
 |(a,b)::l,(off,ft,n)::fs,h=>by
  simp only[aY5,ab] at h;simp[bA9 h.2]
theorem bMc {P:Program}{f:Field}(h:Gv P f=true):Nv P f.type=true:=by
 grind[Nv,Gv]
def bI3 {P:Program}{l:List Field}(h:l.all (Gv P)=true):(l.all λf=>Nv P f.type)=true:=by
 grind[bMc,List.all_eq_true]
def bMd {t:Nat}{f:Nat×Nat×Nat}{fs:List (Nat×Nat×Nat)}{k:Nat}{zz:List Kz}(hTI:rW P TI=true)(h1:kE TI t=some ⟨.st (f::fs),k,zz⟩):∃fds:Array Field,P.underlying t=some (.struct fds)/\fds.toList.length=(f::fs).length/\
  (∀(j:Nat) (fd:Field) (q:Nat×Nat×Nat),fds.toList[j]? =some fd->(f::fs)[j]? =some q->fd.type=q.2.1/\fd.offset=q.1)/\
  ((fds.toList.all λf=>Nv P f.type)=true->P.eqGuardType P.depth t=false/\P.stoodInHeld t=false/\(fds.toList.all λf=>f.name != "_")=true):=by
 obtain⟨_,hfs,hor⟩:=aB3 (bU hTI h1) rfl;have heq:=bWd (bU hTI h1) rfl;rcases hor with⟨_,pls,k1,k2⟩|⟨hne,_⟩
 ·unfold aOp at k1;cases hu:P.underlying t with
  |none=>simp_all
  |some d=>
   cases d<;>simp[hu] at k1;rename_i fds;refine⟨fds,rfl,(bA8 k1).symm.trans (bA9 k2),λj fd qq ha hc=> ?_,λhf=> ?_⟩
   ·have h5:=(aO7 hfs (n:=j) (off:=qq.1) (ft:=qq.2.1) (k:=qq.2.2) hc).2.1
    grind[bIw]
   grind[bUc,Bool.not_true,Bool.not_eq_true']
 ·cases hne
def bGz {D:Nat}{w:World}{C:Cod U}{X:Nat->Prop}{β:List Tr}{m:Mm U}(d:rW P TI=true){t:Nat}{f:Nat×Nat×Nat}{fs:List (Nat×Nat×Nat)}{k:Nat}{u:List Kz}{cs ds:List (Lf U)}{q:Bool}{vs h:List Value}(h1:kE TI t=some ⟨.st (f::fs),k,u⟩)
  (hv:Ms C w X β m vs cs) (x:Ms C w X β m h ds) (h2:eqQ TI 0 (f::fs) cs ds=some q):P.eqGuardType P.depth t=false/\Nv P t=true/\∀w':World,(Op.equalIn (D+2) t (.agg vs.toArray) (.agg h.toArray)).run P w'= .ok q w':=by
 obtain⟨fds,n,hlen,o,p⟩:=bMd d h1;have b:∀(l:List Value) (e:List (Lf U)),Ms C w X β m l e->∀(j:Nat) (c:Lf U),e[j]? =some c->∃v,l.toArray[0+j]? =some v/\c.mean C w X β m v:=λl e hm j c hc=>by
  have r:j<l.length:=by rw[hm.1];grind
  exact⟨l[j],by simp[r],hm.2 j _ c (ae r) hc⟩
 have key:=λw':World=>bMb (D:=D) (w:=w) (w':=w') (C:=C) (X:=X) (β:=β) (m:=m) d (xs:=vs.toArray) (ys:=h.toArray) (fds:=fds.toList) (i:=0) hlen o (b vs cs hv) (b h ds x) h2;obtain⟨y,z,A⟩:=p (bI3 (key w).1);refine⟨y,by simp only[Nv,n];exact(key w).1,λw'=> ?_⟩
 grind[run_equalIn_struct,Program.fieldsOf]
def bUf {D:Nat}{w:World}{C:Cod U}{X:Nat->Prop}{β:List Tr}{m:Mm U}(b:rW P TI=true){ft:Nat}{i:TInfo}{x y:Sv U}{v u:Value}{q:Bool}(c:kE TI ft=some i)(d:x.mean C w X β m v)(e:y.mean C w X β m u)(h:eqV TI i x y=some q):
  Nv P ft=true/\∀w':World,(Op.equalIn (D+2) ft v u).run P w'= .ok q w':=by
 obtain⟨f,l,n⟩:=i;unfold eqV at h;split at h
 ·split at h
  ·rename_i he;split at h
   ·rename_i hk;subst hk;have he:f=_:=he;subst he;obtain⟨j,_⟩:=Ru (bU b c) rfl;obtain⟨rfl,_⟩:=d;obtain⟨rfl,_⟩:=e
    grind[Nv,run_equalIn_int]
   ·cases h
  ·cases h
 ·split at h
  ·rename_i he;have he:f=_:=he;subst he;obtain⟨j,_⟩:=aB2 (bU b c) rfl;obtain rfl:=d;obtain rfl:=e
   grind[Nv,run_equalIn_bool']
  ·cases h
 ·split at h
  ·rename_i he;have he:f=_:=he;subst he;obtain⟨j,_⟩:=Lu (bU b c) rfl;obtain⟨rfl,_⟩:=d;obtain⟨rfl,_⟩:=e
   grind[Nv,run_equalIn_string]
  ·cases h
 ·split at h
  ·rename_i g o he;have he:f=_:=he;subst he;obtain⟨vs,rfl,hv⟩:=d;obtain⟨p,rfl,k⟩:=e;obtain⟨_,k2,k3⟩:=bGz (D:=D) b c hv k h;simp[*]
  ·cases h
 ·cases h
def bMe {D:Nat}{w w':World}{X:Nat->Prop}{β:List Tr}{m:Mm U}(hTI:rW P TI=true){vs us:List Value}{cs ds:List (Lf U)}(hv:Ms Y.C w X β m vs cs)(hu:Ms Y.C w X β m us ds):∀{fs:List (Nat×Nat×Nat)} {fds:List Field} {z:Bool},fds.length=fs.length->
  (∀(j:Nat) (fd:Field) (q:Nat×Nat×Nat),fds[j]? =some fd->fs[j]? =some q->fd.type=q.2.1/\fd.offset=q.1)->
  eqN TI fs cs ds=some z->(fds.all λf=>Nv P f.type)=true/\((fds.all λf=>f.name != "_")=true->(Op.eqFields (D+2) vs.toArray us.toArray fds).run P w'= .ok z w')
 |[],fds,z,hl,_,he=>by
  have h1:fds=[]:=gS.1 hl;subst h1;cases he;exact⟨rfl,λ_=>bGo⟩
 |(off,ft,n)::fs,[],z,hl,_,_=>by cases hl
 |(off,ft,n)::fs,fd::fds,z,hl,hfd,he=>by
  unfold eqN at he;split at he
  ·rename_i i hi;split at he
   ·rename_i x hcx;split at he
    ·rename_i y hcy;split at he
     ·rename_i a ha;split at he
      ·rename_i r hr;obtain⟨k1,k2⟩:=hfd 0 fd (off,ft,n) rfl rfl;have k1:fd.type=ft:=k1;have k2:fd.offset=off:=k2;obtain⟨v,p1,m1⟩:=aO9 (bU hTI hi) hcx hv;obtain⟨u,p2,m2⟩:=aO9 (bU hTI hi) hcy hu;obtain⟨f1,f2⟩:=bUf (D:=D) hTI hi m1 m2 ha;obtain⟨g1,g2⟩:=bMe (D:=D) (w':=w') hTI hv hu (fs:=fs) (fds:=fds) (by simpa using hl) (λj fd q a b=>hfd (j+1) fd q (by simpa using a) (by simpa using b)) hr;cases he;refine⟨by rw[gE,k1,f1,g1];rfl,λhn=> ?_⟩
       rw[gE,ab] at hn;have hnm:fd.name≠ "_" :=by simpa using hn.1
       simp only[Op.eqFields,hnm,ne_eq,not_false_eq_true,ia,Sem.run_bind,k1,k2,p1,p2,f2,Result.andThen_ok];cases a with
       |true=>simp only[ay,je,if_false,cx];exact g2 hn.2
       |false=>simp only[db,ia,Sem.run_pure,fu]
      ·cases he
     ·cases he
    ·cases he
   ·cases he
  ·cases he
theorem bI4 (c:rW P TI=true)(r:bN Y.C E s a w β){b:BinOp}{t u:TypeId}{x y:Operand}{f:Nat×Nat×Nat}{fs:List (Nat×Nat×Nat)}{k:Nat}{n:List Kz}{cs ds:List (Lf U)}{q:Bool}(p:fV s x= .a cs)(v:fV s y= .a ds)(h1:kE TI t=some ⟨.st (f::fs),k,n⟩)(h2:eqB TI (f::fs) cs ds=some q)(hb:b= .eql\/b= .neq):
  MO P Y.C E s a w β (.binOp b t x y u) (.l (.bool (if b= .eql then q else !q))):=λo ho=>by
 obtain⟨vs,q1,q2⟩:=bUe r (bL9 p);obtain⟨A,i,j⟩:=bUe r (bL9 v);have hq:P.eqGuardType P.depth t=false/\∀w':World,(Op.equalIn 10000 t (.agg vs.toArray) (.agg A.toArray)).run P w'= .ok q w':=by
  unfold eqB at h2;split at h2
  ·rename_i z B;cases h2;obtain⟨k1,_,k3⟩:=bGz (D:=9998) c h1 q2 j B;simp[*]
  ·obtain⟨fds,F,hlen,d,e⟩:=bMd c h1;have key:=λw':World=>bMe (D:=9997) (w':=w') c q2 j hlen d h2;obtain⟨h,G,H⟩:=e (key w).1
   grind[run_equalIn_struct,Program.fieldsOf]
 obtain⟨h,hq⟩:=hq;rcases hb with rfl|rfl
 ·exact⟨.bool q,λw' _=>by simp only[execOp,ho,q1,i,Sem.run_bind,run_eqGuard_agg _ _ _ _ _ _ _ h,Result.andThen_ok,run_eql_struct,hq,Sem.run_pure],rfl⟩
 ·exact⟨.bool (!q),λw' _=>by simp only[execOp,ho,q1,i,Sem.run_bind,run_eqGuard_agg _ _ _ _ _ _ _ h,Result.andThen_ok,run_neq_struct,hq,Sem.run_pure],rfl⟩
def bI5 (c:rW P TI=true)(r:bN Y.C E s a w β){b:BinOp}{t u:TypeId}{x y:Operand}{z:Lf U}(h:bin TI b t (fV s x) (fV s y)=some z):MO P Y.C E s a w β (.binOp b t x y u) (.l z):=by
 generalize e:fV s x=f at h;generalize j:fV s y=n at h;unfold bin at h;split at h
 ·grind[aPa]
 ·grind[aPb]
 ·split at h
  ·rename_i i k z' d;have ht:=(aB2 (bU c d) rfl).1;split at h
   ·simp only[aj] at h;subst h;exact oV r (by simp_all[bXt,aY8])
   ·simp only[aj] at h;subst h;exact oV r (by simp_all[bXu,aY8])
   ·cases h
  ·cases h
 all_goals grind[Option.some.injEq,bI4,inl]
def aK3 {xs:Array Operand}{x y:Operand}(h:xs.toList=[x,y]):xs= #[x,y]:=by grind
def aK4 {α:Type}{xs:Array α}{x:α}(h:xs.toList=[x]):xs= #[x]:=by grind
def aWr (v:rW P TI=true)(r:bN Y.C E s a w β){op:Op}{x:Sv U}(h:pur Y TI s op=some x):MO P Y.C E s a w β op x:=by
 unfold pur at h;split at h
 ·simp only[aj] at h;subst h;exact λo ho=>⟨_,λw' _=>by simp[execOp,ho],kW r⟩
 ·simp only[aj] at h;subst h;exact λo ho=>⟨_,λw' _=>by simp[execOp,ho],kW r⟩
 ·rename_i c y z;split at h
  ·rename_i b hc;have G:a.eval c= .bool b:=oC r hc;cases b with
   |true=>simp only[ac,aj] at h;subst h;exact λo ho=>⟨_,λw' _=>by simp[execOp,ho,G,asBool],kW r⟩
   |false=>simp only[aa,aj] at h;subst h;exact λo ho=>⟨_,λw' _=>by simp[execOp,ho,G,asBool],kW r⟩
  ·cases h
 ·rename_i y;split at h
  ·rename_i b off V;split at h
   ·rename_i T cs us rv cv F;simp only[aj] at h;subst h;rw[aW] at F;have hm:=oC r V;obtain⟨_,e,tr,h1,h2,B⟩:=oC r V;rw[F] at h1;injection h1 with h1;subst h1;obtain⟨bb,_,hv⟩:=B rfl;exact λo ho=>⟨a.eval y,λw' _=>by simp[execOp,ho,hv],hm⟩
   ·cases h
  ·cases h
 ·grind[Option.some.injEq,mJ,bXq,eG,oV,not_,aY8]
 ·rename_i t u y;split at h
  ·rename_i k1 i1 z1 j i2 z2 k n h1 h2 B;simp only[aj] at h;subst h;exact mJ r λ_=>cnv (by rw[(Ru (bU v h1) rfl).1];rfl) (Ru (bU v h2) rfl).1 (eG B)
  ·cases h
 ·rename_i t y f;split at h
  ·rename_i fs i z p h1 h2;split at h
   ·rename_i off ft n B;split at h
    ·rename_i q F;simp only[aj] at h;subst h;have D:=(aB3 (bU v h1) rfl).2.1;simp only[fld,aW] at B;have H:=(aO7 D B).1;rw[cj] at H;obtain⟨v',q1,q2⟩:=aB5 r H (oC r h2) F;exact λo ho=>⟨v',λw' _=>by simp[execOp,ho,q1],q2⟩
    ·cases h
   ·cases h
  ·cases h
 ·rename_i t y;split at h
  ·rename_i i p h1 h2;obtain⟨p',v',q1,q2,q3⟩:=aWq r (bU v h1) (oC r h2) h;exact λo ho=>⟨v',λw' he=>by simp[execOp,ho,q1,Instr.loadAt,Instr.sureAddr,q2 w' he],q3⟩
  ·cases h
 ·rename_i t y f;split at h
  ·rename_i fs i z cs h1 h2;split at h
   ·rename_i off ft n B;split at h
    ·rename_i j F;have D:=(aB3 (bU v h1) rfl).2.1;simp only[fld,aW] at B;have H:=(aO7 D B).2.1;rw[cj] at H;obtain⟨vs,q1,q2⟩:=bUe r (bL9 h2);obtain⟨v',q3,q4⟩:=aO9 (bU v F) h q2;exact λo ho=>⟨v',λw' _=>by simp only[execOp,ho,q1,bGq H,q3,Sem.run_bind,Sem.run_pure,Result.andThen_ok,Sem.run_map],q4⟩
    ·cases h
   ·cases h
  ·cases h
 ·rename_i t ps;split at h
  ·rename_i fs k z h1;split at h
   ·rename_i cs h2;simp only[aj] at h;subst h;have I:=bU v h1;obtain⟨j,O,k3,k4,k5⟩:=aN6 I;obtain⟨W,_,Q⟩:=aB3 I rfl;rcases Q with⟨_,pls,k1,k2⟩|⟨rfl,J⟩
    rotate_left
    ·--an array:nothing is put in
     have R:ps.toList=[]:=by cases hp:ps.toList<;>grind[bD5,fld,aW]
     rw[R] at h2;simp only[bD5,aj] at h2;subst h2;refine λo ho=>⟨.agg O.cells,λw' _=> ?_,O.cells.toList,by simp,Rv k5⟩;unfold arB at J;cases S:P.underlying t with
     |none=>simp_all
     |some d=>cases d<;>simp[S] at J;rename_i n e;cases hi:P.info? e<;>simp_all[execOp,Instr.build,zeroValue,typeInfo,k3,k4,run_underlying,sizeOf,Instr.fill]
    obtain⟨res,k6,k7⟩:=bA7 r k2 h2 O.cells (Rv k5);refine λo ho=>⟨.agg res,λw' _=> ?_,res.toList,by simp,k7⟩;unfold aOp at k1;cases S:P.underlying t with
    |none=>simp_all
    |some d=>
     cases d<;>simp[S] at k1;rename_i fds;have hm:=aOq (w:=w') k1;have hm':(fds.mapM λf=>(Prod.mk f.offset<$>sizeOf f.type:Sem (Nat×Nat))).run P w'= .ok pls.toArray w':=by rw[<-Array.toArray_toList (xs:=fds),ji];simp[*]
     simp_all[Instr.fill,k6,execOp,Instr.build,zeroValue,typeInfo,k3,k4,run_underlying]
   ·cases h
  ·cases h
 ·rename_i y i;split at h
  ·rename_i xs h1;split at h
   ·rename_i c h2;simp only[aj] at h;subst h;rw[aW] at h2;have hm:=kW r (x:=y);rw[bWg h1] at hm;obtain⟨vs,q1,q2,q3⟩:=hm;have hl:i<vs.length:=by grind
    exact λo ho=>⟨vs[i],λw' _=>by simp[execOp,ho,q1,Instr.extract,hl],uZ (q3 i _ c (ae hl) h2)⟩
   ·cases h
  ·cases h
 ·rename_i Z ats;split at h
  ·rename_i y t A L;rw[aK4 A,aK4 L];split at h
   ·rename_i e ek eb i z p h1 h2;have hs:=(Dk (bU v h1) rfl).1;split at h
    ·cases h
    ·rename_i hns;cases hl:lenOf s.m p with
     |none=>simp_all
     |some q=>
      simp only[hl,aj] at h;subst h;cases p with
      |nil=>
       simp only[lenOf,aj] at hl;subst hl;have hv:∀E':VK.Env P g,VK.Ev E' (brS s false) y .nil:=λE'=>by
        have:vw s.m false (wI s y)= .nil:=by
         unfold fV at h2;cases ho:wI s y with
         |l z=>
          simp only[ho,Sv.l.injEq] at h2;cases z with
          |nil=>rfl
          |nat a=>simp only[rsv,aW] at h2;cases hn:s.m.ns[a]? <;>simp[hn] at h2
          |lt a n=>simp only[rsv,aW] at h2;cases hn:s.m.ns[a]? <;>simp[hn] at h2
          |_=>simp[rsv] at h2
         |_=>simp_all
        grind[aY6]
       grind[mJ,bXw]
      |str z=>simp_all
      |_=>
       simp only[lenOf] at hl;split at hl
       ·rename_i τ l hr;simp only[aj] at hl;subst hl;exact mJ r λ_=>bXv hs (bSu h2 hr)
       ·cases hl
   ·rename_i i z q h1 h2;simp only[aj] at h;subst h;exact mJ r λ_=>bXx (Lu (bU v h1) rfl).1 (Lv h2)
   ·cases h
  ·cases h
 ·rename_i Z ats;split at h
  ·rename_i y z A;rw[aK3 A];split at h
   ·rename_i k m k' n h1 h2;split at h
    ·rename_i he;subst he;simp only[aj] at h;subst h;exact mJ r (by simp_all[mn2,eG])
    ·cases h
   ·cases h
  ·cases h
 ·rename_i Z ats;split at h
  ·rename_i y z A;rw[aK3 A];split at h
   ·rename_i k m k' n h1 h2;split at h
    ·rename_i he;subst he;simp only[aj] at h;subst h;exact mJ r (by simp_all[mx2,eG])
    ·cases h
   ·cases h
  ·cases h
 ·cases h
end
end Go.EV
namespace Go.EV
open Go.RowKit Go.VK
variable {U:Uni} {Y:Lay U} {TI:List (Nat×TInfo)} {P:Program} {g:GI} {E:Env U g}
section
variable {s:St U} {a:Act} {w:World} {β:List Tr} {α:Type}
def oW {x:Operand}{n:Int}(h:xS (fV s x)=some n):∃k,fV s x= .l (.int k n):=by
 cases ho:fV s x with
 |l y=>
  cases y with
  |int k m=>rw[ho] at h;simp only[xS,aj] at h;subst h;exact⟨k,rfl⟩
  |_=>rw[ho] at h;cases h
 |_=>rw[ho] at h;cases h
def bI6 (r:bN Y.C E s a w β){f:(τ:Nat)->List (U.El τ)->List (U.El τ)}{p B:Lf U}{τ:Nat}{l:List (U.El τ)}(hr:tY s.m p=some (.sl τ l))(hs:aT8 f s.m.o p=some B){v v0:Value}(hm:p.mean Y.C w (E.X β) β s.m v0)
  (h1:v.oneCell'=true) (hv:∀Z:Nat->Prop,Rd w Z [] v0 (.slice (U.K τ) (l.map (U.enc τ)))->Rd w Z [] v (.slice (U.K τ) ((f τ l).map (U.enc τ)))):B.mean Y.C w (E.X β) β s.m v:=by
 have own:∀(i c:Nat) (e:EO U),s.m.o[i]? =some e->e.cv=c->pI p=false->(∀t,β[i]? =some t->Rd w (λb=>E.X β b/\b∉t.all) [] v0 (.slice (U.K τ) (l.map (U.enc τ))))->(Lf.bor i c τ (f τ l):Lf U).mean Y.C w (E.X β) β s.m v:=λi c e he hc _ hrd=>by
  obtain⟨t,ht⟩:=r.hp.tr he;exact⟨⟨hc▸(r.hp.vers i e he).2,h1⟩,e,t,he,ht,λ_=>hv _ (hrd t ht)⟩
 cases p with
 |sl τ' l'=>simp only[tY,aj,Lf.sl.injEq] at hr;obtain⟨rfl,hl⟩:=hr;obtain rfl:=ey hl;simp only[aT8,aj] at hs;subst hs;exact hv _ hm
 |own i q=>
  obtain⟨_,e,t,k1,k2,k3⟩:=hm;simp only[tY,aW,k1] at hr;simp only[aT8,aW,k1] at hs;obtain⟨ob,rv,cv⟩:=e;cases ob with
  |tree τ' d l'=>
   cases hb:Nat.beq rv q with
   |false=>simp[hb] at hr
   |true=>simp only[hb,ac,aj,Lf.sl.injEq] at hr hs;obtain⟨rfl,hl⟩:=hr;obtain rfl:=ey hl;subst hs;refine own i cv _ k1 rfl rfl (λt' h=> ?_);rw[k2] at h;injection h with h;subst h;rw[k3 (ah hb)];exact(Hp.tree r.hp k2 k1 rfl).rd (λb hb'=>hb'.1) (λb hb' hn=>hn.2 hb')
  |_=>cases hr
 |bor i c τ' l'=>
  obtain⟨h0,e,t,k1,k2,k3⟩:=hm;simp only[tY,okv,aW,k1] at hr;simp only[aT8,aj] at hs;cases hb:Nat.beq e.cv c with
  |false=>simp[hb] at hr
  |true=>simp only[hb,ac,aj,Lf.sl.injEq] at hr;obtain⟨rfl,hl⟩:=hr;obtain rfl:=ey hl;subst hs;refine own i c e k1 (ah hb) rfl (λt' h=> ?_);rw[k2] at h;injection h with h;subst h;exact k3 (ah hb)
 |inn i c τ0 q z j τ' l'=>
  have I:=hm;obtain⟨h0,e,t,k1,k2,k3⟩:=hm;have J:=hr;simp only[tY,okv,aW,k1] at hr;simp only[aT8,aj] at hs;cases hb:Nat.beq e.cv c with
  |false=>simp[hb] at hr
  |true=>
   simp only[hb,ac,aj,Lf.sl.injEq] at hr;obtain⟨rfl,hl⟩:=hr;obtain rfl:=ey hl;subst hs;refine own i c e k1 (ah hb) rfl (λt' h=> ?_);rw[k2] at h;injection h with h;subst h;have hc:=ah hb;obtain⟨d,L,xs,D,a2,O,F,Q,G⟩:=k3 hc;have k:=r.hp.ok i t e k2 k1;rw[D] at k;obtain⟨_,R,b2,b3⟩:=k;obtain⟨l1,l2,x1,n,x2,B1,Bz,B2,g1,g2,H,S,T,V,o1,W,o3,_⟩:=aZa r.hp k2 k1 D O;have u:xs=x1++(n++x2):=by
    rcases fF Q with⟨x,c2,c3,_⟩|⟨b,cur,x,_,_,_,c5,_,c7⟩
    ·have:=H.1;rw[c2] at this;simp at this;rw[c3,this.1,this.2.1,this.2.2];rfl
    ·rcases fF H with⟨d1,_⟩|⟨b',cur',d1,_,_,_,d5,_,d7⟩
     ·rw[x] at d1;cases d1
     ·rw[x] at d1;injection d1 with d1;subst d1;rw[c5] at d5;injection d5 with d5;injection d5 with d5;subst d5;rw[<-c7,<-d7]
   have y:n[j]? =some v0:=by
    have A:j<n.length:=by rw[T,<-Y.C.hlen τ0 z];exact lt_of_some F
    rw[u,<-S,aE (cM _ _),cT,av A] at G;exact G
   exact(W.rd (Z:=λb=>E.X β b/\b∉t.all) (λb hb'=>hb'.1) (λb hb' hn=>hn.2 (by simp[Tr.all,V,hb']))).2 j v0 _ y F
 |_=>cases hs
def aZe (r:bN Y.C E s a w β){op:Op}{f:(τ:Nat)->List (U.El τ)->List (U.El τ)}{x:Operand}{p i:Lf U}{τ:Nat}{l:List (U.El τ)}(k:fV s x= .l p)(hr:tY s.m p=some (.sl τ l))(hs:aT8 f s.m.o p=some i)
  (a0 d:Nat) (e:a0<=d) (hb:d<=l.length) (n:f τ l=(l.take d).drop a0)
  (b:∀(A:Option Addr) (c:Nat),a.eval x= .slice A l.length c->l.length<=c->∀o:Oper,o.op=op->∀w',(execOp a.eval o).run P w'= .ok (.value (.slice (if c=a0 then A else A.map λq=>q.add (a0*U.K τ)) (d-a0) (c-a0))) w'):MO P Y.C E s a w β op (.l i):=λo ho=>by
 have hm:=oC r k;have h0:=(Hl r.hp hm hr (Z:=λ_=>False) (λ_ h=>h.elim) (.inr λ_ _ _ _ _ h=>h)).2;obtain⟨A,c,h1,h2,t⟩:=Rd.aBF (show Rd w _ [] (a.eval x) (.slice (U.K τ) (l.map (U.enc τ))) from h0);rw[bg] at h1 h2;refine⟨_,λw' _=>b A c h1 h2 o ho w',bI6 r hr hs hm rfl λZ j=> ?_⟩;rw[h1] at j;rw[n,fL,List.map_take];exact j.sub e (by rw[bg];exact hb)
def bBa (B:rW P TI=true)(r:bN Y.C E s a w β){t:TypeId}{x:Operand}{R hi:Option Operand}{K:Sv U->Option α}{z:α}(h:Zb Y TI s (.slice t x R hi none) K=some z):∃y,K y=some z/\MO P Y.C E s a w β (.slice t x R hi none) y:=by
 simp only[Zb] at h;split at h
 ·rename_i i k S str h1 h2;have ht:=(Lu (bU B h1) rfl).1;split at h
  ·rename_i v;split at h
   ·rename_i n hn;obtain⟨hg,h⟩:=lL h;obtain⟨q,hn⟩:=oW hn;exact⟨_,h,aZd r λ_=>bX4 hg ht (Lv h2) (eG hn)⟩
   ·cases h
  ·rename_i T;split at h
   ·rename_i n hn;obtain⟨hg,h⟩:=lL h;obtain⟨q,hn⟩:=oW hn;exact⟨_,h,aZd r λ_=>bX5 hg ht (Lv h2) (eG hn)⟩
   ·cases h
  ·rename_i T v;split at h
   ·rename_i m n hm hn;obtain⟨hg,h⟩:=lL h;obtain⟨q,hn⟩:=oW hn;obtain⟨D,hm⟩:=oW hm;exact⟨_,h,aZd r λ_=>bX3 hg ht (Lv h2) (eG hm) (eG hn)⟩
   ·cases h
  ·cases h
 ·rename_i e ek eb k S p h1 h2;have I:=(Dk (bU B h1) rfl).1;obtain⟨H,ii,V,j,hz,F,W,Z,hk0⟩:=gQ I;split at h
  ·rename_i τ l hr;cases b:Lr (U:=U) e ek τ with
   |false=>simp[b] at h
   |true=>
    simp only[b,ac] at h;simp only[Lr,ab] at b;have he:e=τ:=ah b.1;have hk:U.K τ=ek:=ah b.2;subst he;split at h
    ·split at h
     ·rename_i J hs;refine⟨_,h,aZe r h2 hr hs 0 l.length (cy _) (ai _) (by simp) λA c u hc o ho w'=> ?_⟩
      simp[execOp,ho,u,Instr.sliceAt,Instr.slice,run_underlying H,Instr.sliceBounds,Instr.sliceBound,asIntOf,sizeOf,typeInfo,j,hc]
     ·cases h
    ·rename_i v;split at h
     ·rename_i n J hn hs;obtain⟨hg,h⟩:=lL h;rw[hn] at hs;obtain⟨q,d⟩:=oW hn;have f:a.eval v= .int q n:=(oC r d).1;refine⟨_,h,aZe r h2 hr hs 0 n.toNat (cy _) hg.2 (by simp) λA c u hc o ho w'=> ?_⟩
      have G:(0<=n/\n<=(c:Int)):=⟨hg.1,by have:=hg.2;have:=hg.1;omega⟩;simp[execOp,ho,u,f,Instr.sliceAt,Instr.slice,run_underlying H,Instr.sliceBounds,Instr.sliceBound,asIntOf,G,sizeOf,typeInfo,j]
     ·cases h
    ·rename_i L;split at h
     ·rename_i n J hn hs;obtain⟨hg,h⟩:=lL h;rw[hn] at hs;obtain⟨q,d⟩:=oW hn;have f:a.eval L= .int q n:=(oC r d).1;refine⟨_,h,aZe r h2 hr hs n.toNat l.length hg.2 (ai _) (by simp) λA c u hc o ho w'=> ?_⟩
      have G:(0<=n/\n<=(l.length:Int)):=⟨hg.1,by have:=hg.2;have:=hg.1;omega⟩;simp[execOp,ho,u,f,Instr.sliceAt,Instr.slice,run_underlying H,Instr.sliceBounds,Instr.sliceBound,asIntOf,G,sizeOf,typeInfo,j,F,hk]
     ·cases h
    ·rename_i L v;split at h
     ·rename_i n m J hn hm hs;obtain⟨hg,h⟩:=lL h;rw[hn,hm] at hs;obtain⟨q,d⟩:=oW hn;obtain⟨D,O⟩:=oW hm;have f:a.eval L= .int q n:=(oC r d).1;have Q:a.eval v= .int D m:=(oC r O).1;obtain⟨g1,g2,g3,g4⟩:=hg;refine⟨_,h,aZe r h2 hr hs n.toNat m.toNat (by omega) g4 (by simp) λA c u hc o ho w'=> ?_⟩
      have G:(0<=m/\m<=(c:Int)):=⟨g3,by omega⟩;have e2:(0<=n/\n<=((m.toNat:Nat):Int)):=⟨g1,by omega⟩;simp[execOp,ho,u,f,Q,Instr.sliceAt,Instr.slice,run_underlying H,Instr.sliceBounds,Instr.sliceBound,asIntOf,G,e2,sizeOf,typeInfo,j,F,hk];intro v;exfalso;omega
     ·cases h
  ·cases h
 ·cases h
end
end Go.EV
namespace Go.EV
open Go.RowKit Go.VK
variable {U:Uni} {Y:Lay U} {TI:List (Nat×TInfo)} {P:Program} {g:GI} {E:Env U g}
section
variable {s:St U} {a:Act} {w:World} {β:List Tr} {α:Type}
def bQm (r:bN Y.C E s a w β){x y:Operand}{c:Nat}{k:IntKind}{m n:Int}{t u:TypeId}(hc:wI s x= .l (.nat c))(b:fV s x= .l (.int k m))(d:fV s y= .l (.int k n)):MO P Y.C E s a w β (.binOp .lss t x y u) (.l (.lt c n)):=λo ho=>by
 obtain⟨v,h1,h2⟩:=oV (P:=P) r (λ_=>lss (t:=t) (u:=u) (eG b) (eG d)) o ho;refine⟨v,h1,?_⟩;have hm:=kW r (x:=x);rw[hc] at hm;obtain⟨i,f,k1,k2,k3⟩:=hm;have hk:k= .i64/\m=(i:Int):=by have:=(oC r b).1;rw[k2] at this;injection this with e h;exact⟨e.symm,h.symm⟩
 obtain⟨rfl,rfl⟩:=hk;have hn:=(oC r d).2.2;exact⟨i,f,k1,h2,by simpa[IntKind.max,IntKind.signed,IntKind.bits] using hn⟩
def bMf (r:bN Y.C E s a w β){t:TypeId}{e ek eb:Nat}(h:slB P t e ek eb=true){x y:Operand}{i q0:Nat}{τ:Nat}{d:Bool}{l:List (U.El τ)}{rv cv:Nat}{k:IntKind}{q:Int}{z:U.El τ}(F:fV s x= .l (.own i q0))(G:fV s y= .l (.int k q))
  (ho:s.m.o[i]? =some ⟨.tree τ d l,rv,cv⟩) (hr:rv=q0) (hk:U.K τ=ek) (H:bA l q=some z):MO P Y.C E s a w β (.indexAddr t x y) (.l (.oel i cv τ q z 0)):=λo j=>by
 obtain⟨I,S,T,n,J,p,L,O,Q⟩:=gQ h;obtain⟨h0,hq⟩:=Rq H;have hm:=oC r F;obtain⟨_,e',t',k1,k2,k3⟩:=hm;rw[ho] at k1;injection k1 with k1;subst k1;have hv:=k3 hr;have u:a.eval y= .int k q:=(oC r G).1;have v:=r.hp.ok i t' _ k2 ho;obtain⟨_,xs,R,_⟩:=v;have A:q.toNat<l.length:=lt_of_some hq;rcases fF R with⟨_,D,_⟩|⟨b,cur,b1,D,_⟩
 ·omega
 ·have f:a.eval x= .slice (some ⟨b,0,none⟩) l.length t'.c:=by rw[hv];simp[Tr.val,b1,D]
  refine⟨.pointer (some (Addr.add ⟨b,0,none⟩ (q.toNat*ek))),λw' _=> ?_,⟨⟨(r.hp.vers i _ ho).2,rfl⟩,⟨.tree τ d l,rv,cv⟩,t',ho,k2,λ_=>⟨d,l,b,rfl,h0,hq,b1,?_⟩⟩⟩
  ·have B:q.toNat<l.length:=A;simp[execOp,j,f,u,Instr.indexAt,asIntOf,run_underlying I,sizeOf,typeInfo,n,p,h0,B];intro V;exfalso;omega
  ·rw[iC,hk];simp
def bMg (r:bN Y.C E s a w β){t:TypeId}{e ek eb:Nat}(h:slB P t e ek eb=true){x y:Operand}{i c j τ τ' τ1:Nat}{q q':Int}{z:U.El τ}{l:List (U.El τ')}{L:List (U.El τ1)}{rv cv:Nat}{k:IntKind}{z':U.El τ'}(O:fV s x= .l (.inn i c τ q z j τ' l))(Q:fV s y= .l (.int k q'))
  (ho:s.m.o[i]? =some ⟨.tree τ1 true L,rv,cv⟩) (hr:cv=c) (hk:U.K τ'=ek) (R:bA l q'=some z'):MO P Y.C E s a w β (.indexAddr t x y) (.l (.oin i c τ q z j τ' l q' z' 0)):=λo n=>by
 obtain⟨S,ii,zz,p,T,v,V,W,Z⟩:=gQ h;obtain⟨h0,hq⟩:=Rq R;obtain⟨g0,e',t',k1,k2,k3⟩:=oC r O;rw[ho] at k1;injection k1 with k1;subst k1;obtain⟨d,L1,xs,a1,a2,F,G,H,I⟩:=k3 hr;injection a1 with e1 e2 e3;subst e1;subst e2;obtain rfl:=ey e3;have A:a.eval y= .int k q':=(oC r Q).1;obtain⟨u,ys,b1,b2,b3,b4⟩:=bGw r.hp k2 ho rfl F G H I;have B:q'.toNat<l.length:=lt_of_some hq;rcases fF b2 with⟨_,J,_⟩|⟨b,cur,c1,J,_⟩
 ·omega
 ·have f:a.eval x= .slice (some ⟨b,0,none⟩) l.length u.c:=by rw[b1];simp[Tr.val,c1,J]
  refine⟨.pointer (some (Addr.add ⟨b,0,none⟩ (q'.toNat*ek))),λw' _=> ?_,⟨⟨g0.1,rfl⟩,_,t',ho,k2,λ_=>⟨_,xs,_,b,_,_,rfl,a2,F,G,H,I,f,h0,hq,?_⟩⟩⟩
  ·have D:q'.toNat<l.length:=B;simp[execOp,n,f,A,Instr.indexAt,asIntOf,run_underlying S,sizeOf,typeInfo,p,v,h0,D];intro hh;exfalso;omega
  ·rw[iC,hk];simp
def bMh (b:rW P TI=true)(r:bN Y.C E s a w β){e f:TypeId}{x:Operand}{ek eb k1 k2 k3:Nat}{h i j:List Kz}{p:Lf U}{l:List (U.El Y.bt)}(h1:kE TI e=some ⟨.sl Y.bt ek eb,k1,h⟩)(h2:kE TI f=some ⟨.str,k2,i⟩)(k:kE TI Y.bt=some ⟨.int .u8,k3,j⟩)
  (o:fV s x= .l p) (hr:tY s.m p=some (.sl Y.bt l)) (hg:l.length<=68719476736):MO P Y.C E s a w β (.convert e f x) (.l (.str (bIx (l.map Y.bi)))):=by
 have hK:U.K Y.bt=1:=by rw[<-Y.C.hlen Y.bt (Y.be 0),Y.hb];rfl
 have c:∀x,U.enc Y.bt x=[V.int .u8 (Y.bi x)]:=λx=>by rw[<-Y.C.hcel,Y.hb];rfl
 have d:l.map (U.enc Y.bt)=(l.map Y.bi).map λn=>[V.int .u8 n]:=by rw[ib];exact gt λx _=>c x
 refine bA1 r false (λE'=>b2s (gQ (Dk (bU b h1) rfl).1).1 (Ru (bU b k) rfl).1 (Lu (bU b h2) rfl).1 (ns:=l.map Y.bi) (by rw[bg];unfold maxLen;omega) ?_) λv hv=>bSv hv;have:=bSu (E':=E') o hr;rw[hK,d] at this;exact this
def bBb {α:Type}{q:Int}{F:Nat->Option α}{z:α}:∀{n:Nat},brA q F n=some z->∃j,j<n/\q=(j:Int)/\F j=some z
 |0,h=>by cases h
 |n+1,h=>by
  have h:(bif decide (q=(n:Int)) then F n else brA q F n)=some z:=h;by_cases hq:q=(n:Int)
  ·rw[ak hq] at h;exact⟨n,eN _,hq,h⟩
  ·rw[ao hq] at h;obtain⟨j,h1,h2,b⟩:=bBb h;exact⟨j,by omega,h2,b⟩
def O5 (A:rW P TI=true)(r:bN Y.C E s a w β){op:Op}{K:Sv U->Option α}{z:α}(h:Zb Y TI s op K=some z):∃x,K x=some z/\MO P Y.C E s a w β op x:=by
 unfold Zb at h;split at h
 ·rename_i b t x y u;generalize B:fV s x=W at h;generalize D:fV s y=Z at h;split at h
  ·rename_i k m k' n;split at h
   ·split at h
    ·rename_i he;subst he;split at h
     ·rename_i c hc;exact⟨_,h,bQm r hc B D⟩
     ·exact⟨_,h,oV r λ_=>lss (eG B) (eG D)⟩
    ·cases h
   ·split at h
    ·rename_i he;subst he;obtain⟨hg,h⟩:=lL h;exact⟨_,h,mJ r λ_=>quo hg (eG B) (eG D)⟩
    ·cases h
   ·split at h
    ·rename_i he;subst he;obtain⟨hg,h⟩:=lL h;exact⟨_,h,mJ r λ_=>rem hg (eG B) (eG D)⟩
    ·cases h
   ·obtain⟨hg,h⟩:=lL h;exact⟨_,h,mJ r λ_=>bX0 hg (eG B) (eG D)⟩
   ·obtain⟨hg,h⟩:=lL h;exact⟨_,h,mJ r λ_=>bX1 hg (eG B) (eG D)⟩
   ·split at h
    ·rename_i he;subst he;split at h
     ·rename_i z' G;exact⟨_,h,aPa r B D G⟩
     ·cases h
    ·cases h
  ·rename_i m n;split at h
   ·obtain⟨hg,h⟩:=lL h;exact⟨_,h,aZd r λ_=>bXr hg (Lv B) (Lv D)⟩
   ·split at h
    ·rename_i z' G;exact⟨_,h,aPb r B D G⟩
    ·cases h
  ·split at h
   ·rename_i z' G;refine⟨_,h,bI5 A r ?_⟩;rw[B,D];exact G
   ·cases h
 ·rename_i t x y;split at h
  ·rename_i e ek eb k R p I q h1 h2 F;have H:=(Dk (bU A h1) rfl).1;split at h
   ·rename_i τ l;cases f:Lr (U:=U) e ek τ with
    |false=>simp[f] at h
    |true=>
     simp only[f,ac] at h;simp only[Lr,ab] at f;have he:e=τ:=ah f.1;have hk:U.K τ=ek:=ah f.2;subst he;subst hk;obtain⟨c,hc,h⟩:=kN h;refine⟨_,h,bA1 r true (λ_=>ixq hc H (bWe h2) (eG F true)) λv hv=> ?_⟩
     show Rd w (E.X β) [] v (.elem ((U.enc e c).drop 0));rw[gi];exact hv.conv (ai _) (λb _ hb=>⟨rfl,hb⟩) (λ_ _ _ h=>h) (λ_ _ h=>h)
   ·rename_i i q0;split at h
    ·rename_i τ d l rv cv ho;rw[aW] at ho;cases f:(Nat.beq rv q0&&Lr (U:=U) e ek τ) with
     |false=>rw[f] at h;cases h
     |true=>rw[f] at h;simp only[ac] at h;simp only[Lr,ab] at f;obtain⟨c,hc,h⟩:=kN h;exact⟨_,h,bMf r H h2 F ho (ah f.1) (ah f.2.2) hc⟩
    ·cases h
   ·rename_i i c τ q0 z j τ' l;split at h
    ·rename_i τ1 d L rv cv ho;rw[aW] at ho;cases f:(d&&(Nat.beq cv c&&Lr (U:=U) e ek τ')) with
     |false=>rw[f] at h;cases h
     |true=>rw[f] at h;simp only[ac] at h;simp only[Lr,ab] at f;obtain⟨c',hc,h⟩:=kN h;obtain⟨rfl,f⟩:=f;exact⟨_,h,bMg r H h2 F ho (ah f.1) (ah f.2.2) hc⟩
    ·cases h
   ·cases h
  ·rename_i k R b0 off I q h1 h2 F;obtain⟨j,S,hq,J⟩:=bBb h;subst hq;clear h;split at J
   ·rename_i y' G;rcases(aB3 (bU A h1) rfl).2.2 with⟨O,_⟩|⟨_,Q⟩
    ·exact absurd rfl O
    ·obtain⟨v',q1,q2⟩:=aZb r I Q S (oC r h2) G;have hv:a.eval y= .int I (j:Int):=(oC r F).1;exact⟨_,J,λo ho=>⟨v',λw' _=>by simp[execOp,ho,hv,q1],q2⟩⟩
   ·cases J
  ·cases h
 ·rename_i t x y;split at h
  ·rename_i k R z' I q h1 h2 F;obtain⟨c,hc,h⟩:=kN h;exact⟨_,h,mJ r λ_=>bX2 hc (Lu (bU A h1) rfl).1 (Lv h2) (eG F)⟩
  ·cases h
 ·exact bBa A r (by unfold Zb;exact h)
 ·rename_i ta tb x;split at h
  ·rename_i e ek eb k1 z1 k2 z2 p h1 h2 F;split at h
   ·rename_i τ l k3 z3 hr T;split at h
    ·rename_i l' hs;obtain⟨rfl,hl⟩:=nZ hs;have hl:=ey hl;subst hl;cases hb:Nat.beq e Y.bt with
     |false=>rw[hb] at h;cases h
     |true=>rw[hb] at h;obtain⟨hg,h⟩:=lL h;have he:=ah hb;subst he;refine⟨_,h,bMh A r h1 h2 T F hr hg⟩
    ·cases h
   ·cases h
  ·split at h
   ·rename_i V B;exact⟨V,h,aWr A r B⟩
   ·cases h
 ·split at h
  ·rename_i x B;exact⟨x,h,aWr A r B⟩
  ·cases h
def bMi (f:rW P TI=true)(r:bN Y.C E s a w β){t:TypeId}{x b:Operand}{e ek eb k i q0 τ:Nat}{v:List Kz}{d:Bool}{l:List (U.El τ)}{rv cv:Nat}{n:Int}(h1:kE TI t=some ⟨.sl e ek eb,k,v⟩)(h2:fV s x= .l (.own i q0))(y:xS (fV s b)=some n)
  (ho:s.m.o[i]? =some ⟨.tree τ d l,rv,cv⟩) (hr:rv=q0) (hk:U.K τ=ek) (hg:lU l n):MO P Y.C E s a w β (.slice t x (some b) none none) (.l (.suf i cv τ n l)):=λo h=>by
 obtain⟨z,L,A,j,O,p,B,D,F⟩:=gQ (Dk (bU f h1) rfl).1;obtain⟨G,hn⟩:=oW y;have q:a.eval b= .int G n:=(oC r hn).1;obtain⟨_,e',t',k1,k2,k3⟩:=oC r h2;rw[ho] at k1;injection k1 with k1;subst k1;have hv:=k3 hr;obtain⟨_,xs,H,_⟩:=r.hp.ok i t' _ k2 ho;have hlen:t'.n=l.length/\l.length<=t'.c:=by
  rcases fF H with⟨_,u,_,Q,R⟩|⟨b,cur,b1,u,I,_⟩
  ·omega
  ·exact⟨u,I⟩
 refine⟨aOr (U.K τ) t' n.toNat l.length,λw' _=> ?_,⟨⟨(r.hp.vers i _ ho).2,rfl⟩,_,t',ho,k2,λ_=>⟨d,rfl,hg.1,hg.2,rfl⟩⟩⟩;have J:(0<=n/\n<=(l.length:Int)):=⟨hg.1,by have:=hg.2;have:=hg.1;omega⟩;simp[execOp,h,hv,Tr.val,hlen.1,q,Instr.sliceAt,Instr.slice,run_underlying z,Instr.sliceBounds,Instr.sliceBound,asIntOf,J,sizeOf,typeInfo,j,p,hk,aOr]
end
end Go.EV
namespace Go.EV
open Go.RowKit Go.VK
variable {U:Uni} {Y:Lay U} {TI:List (Nat×TInfo)} {P:Program} {g:GI} {E:Env U g} {C:Cod U}
theorem pX:∀{l:List Nat} {i:Nat},Ps i l=true↔i∈l
 |[],i=>by simp[Ps]
 |x::l,i=>by
  have e:Ps i (x::l)=cond (Nat.beq x i) true (Ps i l):=rfl;rw[e,ba];cases hb:Nat.beq x i with
  |true=>simp[(ah hb).symm]
  |false=>simp only[aa];rw[pX];exact⟨.inr,λh=>h.resolve_left (λe=>by rw[e,show Nat.beq x x=true from dt x] at hb;cases hb)⟩
def zU:∀{l:List Nat},dist l=true↔l.Nodup
 |[]=>by simp[dist]
 |x::l=>by
  have e:dist (x::l)=cond (Ps x l) false (dist l):=rfl;rw[e,cE,<-zU (l:=l),<-pX (l:=l)];cases Ps x l<;>simp
theorem Lx {k:Nat}:∀{ids:List Nat} {o:List (EO U)},(Zc k ids o).length=o.length
 |[],o=>rfl
 |i::ids,o=>by
  have e:Zc k (i::ids) o=upd (Zc k ids o) i ⟨.dead,k,k⟩:=rfl;rw[e,dM,aw,Lx]
def aGv {k:Nat}:∀{ids:List Nat} {o:List (EO U)} {j:Nat},j∈ids->j<o.length->(Zc k ids o)[j]? =some ⟨.dead,k,k⟩
 |[],o,j,h,_=>by simp at h
 |i::ids,o,j,h,c=>by
  have e:Zc k (i::ids) o=upd (Zc k ids o) i ⟨.dead,k,k⟩:=rfl;rw[e,dM];by_cases b:i=j
  ·subst b;rw[bh (by rw[Lx];exact c)]
  ·rw[bj b];exact aGv (by rcases ba.1 h with h|h;exact absurd h.symm b;exact h) c
theorem yY {k:Nat}:∀{ids:List Nat} {o:List (EO U)} {j:Nat},j∉ids->(Zc k ids o)[j]? =o[j]?
 |[],o,j,_=>rfl
 |i::ids,o,j,h=>by
  have e:Zc k (i::ids) o=upd (Zc k ids o) i ⟨.dead,k,k⟩:=rfl;rw[e,dM,bj (λe=>h (by simp[e])),yY (λb=>h (by simp[b]))]
def aGw:Tr:=⟨none,0,0,[]⟩
def pY:aGw.all=[]:=rfl
def bBc:List Nat->List Tr->List Tr
 |[],β=>β
 |i::ids,β=>(bBc ids β).set i aGw
def aPc:∀{ids:List Nat} {β:List Tr},(bBc ids β).length=β.length
 |[],_=>rfl
 |i::ids,β=>by simp[bBc,aPc]
def bG0:∀{ids:List Nat} {β:List Tr} {j:Nat},j∈ids->j<β.length->(bBc ids β)[j]? =some aGw
 |[],_,j,h,_=>by simp at h
 |i::ids,β,j,h,c=>by
  simp only[bBc];by_cases b:i=j
  ·subst b;rw[bh (by rw[aPc];exact c)]
  ·rw[bj b];exact bG0 (by rcases ba.1 h with h|h;exact absurd h.symm b;exact h) c
def aPd:∀{ids:List Nat} {β:List Tr} {j:Nat},j∉ids->(bBc ids β)[j]? =β[j]?
 |[],_,j,_=>rfl
 |i::ids,β,j,h=>by
  simp only[bBc];rw[bj (λe=>h (by simp[e])),aPd (λb=>h (by simp[b]))]
section
variable {s:St U} {a:Act} {w w':World} {β:List Tr}
theorem bN.add (r:bN C E s a w β)(he:Ext w w')(bs:List (EO U×Tr))(hv:∀x∈bs,x.1.rv<=s.m.k/\x.1.cv<=s.m.k)(hb:∀x∈bs,∀b∈x.2.all,w.heap.size<=b/\b<w'.heap.size)
  (A:((bs.map λx=>x.2.all).flatten).Nodup)
  (G:Evo w w' (E.X β) (E.X (β++bs.map (·.2))) β (β++bs.map (·.2)) s.m ⟨s.m.o++bs.map (·.1),s.m.k,s.m.ns⟩ s.m.o.length s.m.ns.length s.m.k->∀x∈bs,x.1.ob.ok C w' (E.X (β++bs.map (·.2))) (β++bs.map (·.2)) ⟨s.m.o++bs.map (·.1),s.m.k,s.m.ns⟩ x.2):
  bN C E ⟨s.t,⟨s.m.o++bs.map (·.1),s.m.k,s.m.ns⟩,s.fr⟩ a w' (β++bs.map (·.2)):=by
 have hlen:=r.hp.len;have d:∀(j:Nat) (t:Tr),s.m.o.length<=j->(β++bs.map (·.2))[j]? =some t->∃x,bs[j-s.m.o.length]? =some x/\t=x.2:=λj t l ht=>by
  rw[aE (by omega),hlen,bm] at ht;cases c:bs[j-s.m.o.length]? with
  |none=>simp[c] at ht
  |some x=>simp only[c,cW,aj] at ht;exact⟨x,rfl,ht.symm⟩
 have n:∀(j:Nat) (e:EO U),s.m.o.length<=j->(s.m.o++bs.map (·.1))[j]? =some e->∃x,bs[j-s.m.o.length]? =some x/\e=x.1:=λj e l ht=>by
  rw[aE l,bm] at ht;cases c:bs[j-s.m.o.length]? with
  |none=>simp[c] at ht
  |some x=>simp only[c,cW,aj] at ht;exact⟨x,rfl,ht.symm⟩
 have p:∀{j:Nat},(False\/s.m.o.length<=j)->s.m.o.length<=j:=λh=>h.resolve_left id;have H:∀(i j:Nat) (x y:EO U×Tr) (b:Nat),i≠j->bs[i]? =some x->bs[j]? =some y->b∈x.2.all->b∉y.2.all:=λi j x y b B c q D F=>by
  have hp:=(im.1 A).2;rw[gz] at hp;have:=eo.1 hp;obtain⟨l1,L⟩:=bc.1 c;obtain⟨l2,O⟩:=bc.1 q;rcases Nat.lt_or_gt_of_ne B with h|h
  ·exact this i j l1 l2 h b (by rw[L];exact D) b (by rw[O];exact F) rfl
  ·exact this j i l2 l1 h b (by rw[O];exact F) b (by rw[L];exact D) rfl
 obtain⟨h1,h2⟩:=r.hp.step (s':=⟨s.m.o++bs.map (·.1),s.m.k,s.m.ns⟩) (β':=β++bs.map (·.2)) (w':=w') (λ_=>False) (λ_=>False) (ai _) (λ_ _ f h=>⟨f,h⟩) r.hp.cnt (by simp[hlen]) (by simp) he.size he.os he.tape he.output
  (λb hb _=>he.block b hb) (λ_ h=>h.elim) (λi _ hi=>⟨by rw[av hi],by rw[av (by rw[hlen];exact hi)]⟩)
  (λj t b l ht v=>by
   obtain⟨x,c,rfl⟩:=d j t (p l) ht;have:=hb x (az c) b v;exact⟨this.2, .inl this.1⟩)
  (λi j t u b hi l B ht Q v I=>by
   obtain⟨x,c,rfl⟩:=d i t (p hi) ht;obtain⟨y,q,rfl⟩:=d j u (p l) Q;exact H _ _ x y b (by have:=p hi;have:=p l;omega) c q v I)
  (λj t l ht=>by
   obtain⟨x,c,rfl⟩:=d j t (p l) ht;exact(im.1 A).1 _ (cg.2 ⟨x,az c,rfl⟩))
  (λj e l z=>by
   obtain⟨x,c,rfl⟩:=n j e (p l) z;exact hv x (az c))
  (λ_ _ _ _ _ h=>h.elim)
  (λJ j t e l ht z=>by
   obtain⟨x,c,rfl⟩:=d j t (p l) ht;obtain⟨y,q,rfl⟩:=n j e (p l) z;rw[c] at q;injection q with q;subst q;exact G J x (az c))
 exact r.go h1 h2
def bN.turn (r:bN C E s a w β){i:Nat}{J:List Nat}{e:EO U}{t t':Tr}{ob:Ob U}{rv:Nat}(hi:s.m.o[i]? =some e)(ht:β[i]? =some t)(hJ:(i::J).Nodup)
  (hsz:w.heap.size<=w'.heap.size) (hos:w'.os=w.os) (D:w'.tape=w.tape) (I:w'.output=w.output) (F:∀b,b<w.heap.size->b∉t.all->w'.heap[b]? =w.heap[b]?)
  (L:∀b∈t'.all,b<w'.heap.size/\(w.heap.size<=b\/b∈t.all\/∃j∈J,∃u,β[j]? =some u/\b∈u.all)) (hnd:t'.all.Nodup) (O:(rv=e.rv/\t'.val=t.val)\/rv=s.m.k+1)
  (Q:ob.aAY=true->e.ob.aAY=true/\t'.b=t.b)
  (hok:∀(β':List Tr) (m':Mm U),Evo w w' (E.X β) (E.X β') β β' s.m m' s.m.o.length s.m.ns.length s.m.k->ob.ok C w' (E.X β') β' m' t'):
  ∃β',bN C E ⟨s.t,⟨Zc (s.m.k+1) J (upd s.m.o i ⟨ob,rv,s.m.k+1⟩),s.m.k+1,s.m.ns⟩,s.fr⟩ a w' β'/\β'[i]? =some t'/\Evo w w' (E.X β) (E.X β') β β' s.m ⟨Zc (s.m.k+1) J (upd s.m.o i ⟨ob,rv,s.m.k+1⟩),s.m.k+1,s.m.ns⟩ s.m.o.length s.m.ns.length s.m.k:=by
 have R:i∉J:=(cE.1 hJ).1;have S:i<s.m.o.length:=lt_of_some hi;have hlen:=r.hp.len;let B:=Zc (s.m.k+1) J (upd s.m.o i ⟨ob,rv,s.m.k+1⟩);let β':=bBc J (β.set i t');have T:B.length=s.m.o.length:=by simp only[B,Lx,dM,aw]
 have hbl:β'.length=β.length:=by simp only[β',aPc,aw]
 have x:B[i]? =some ⟨ob,rv,s.m.k+1⟩:=by simp only[B];rw[yY R,dM,bh S]
 have v:β'[i]? =some t':=by simp only[β'];rw[aPd R,bh (by rw[hlen];exact S)]
 have y:∀j∈J,j<s.m.o.length->B[j]? =some ⟨.dead,s.m.k+1,s.m.k+1⟩:=λj l hl=>aGv l (by rw[dM,aw];exact hl);have V:∀j∈J,j<s.m.o.length->β'[j]? =some aGw:=λj l hl=>bG0 l (by rw[aw,hlen];exact hl);have W:∀j,j≠i->j∉J->B[j]? =s.m.o[j]? :=λj h1 h2=>by simp only[B];rw[yY h2,dM,bj (Ne.symm h1)]
 have Z:∀j,j≠i->j∉J->β'[j]? =β[j]? :=λj h1 h2=>by simp only[β'];rw[aPd h2,bj (Ne.symm h1)]
 have p:∀j,((j=i\/j∈J)\/s.m.o.length<=j)->j=i\/(j∈J/\j<s.m.o.length)\/s.m.o.length<=j:=λj h=>by
  rcases h with(h|h)|h
  ·exact .inl h
  ·by_cases hl:j<s.m.o.length
   ·exact .inr (.inl ⟨h,hl⟩)
   ·exact .inr (.inr (by omega))
  ·exact .inr (.inr h)
 have A:∀(j:Nat) (u:Tr),((j=i\/j∈J)\/s.m.o.length<=j)->β'[j]? =some u->(j=i/\u=t')\/u=aGw:=λj u h d=>by
  rcases p j h with rfl|⟨h1,h2⟩|h1
  ·rw[v] at d;injection d with d;exact .inl ⟨rfl,d.symm⟩
  ·rw[V j h1 h2] at d;injection d with d;exact .inr d.symm
  ·have:=lt_of_some d;omega
 obtain⟨h1,h2⟩:=r.hp.step (s':=⟨B,s.m.k+1,s.m.ns⟩) (β':=β') (w':=w') (λj=>j=i\/j∈J) (λb=>b∈t.all\/∃j∈J,∃u,β[j]? =some u/\b∈u.all) (dy _) (λ_ _ f h=>⟨f,h⟩) r.hp.cnt (by rw[hbl,T,hlen]) (by rw[T];exact ai _) hsz hos D I
  (λb hb hn=>F b hb (λh=>hn (.inl h)))
  (λb hb=>by
   rcases hb with hb|⟨j,l,u,d,hub⟩
   ·exact⟨i,t, .inl rfl,ht,hb⟩
   ·exact⟨j,u, .inr l,d,hub⟩)
  (λj l _=>⟨W j (λe=>l (.inl e)) (λe=>l (.inr e)),Z j (λe=>l (.inl e)) (λe=>l (.inr e))⟩)
  (λj u b l d hb=>by
   rcases A j u l d with⟨_,rfl⟩|rfl
   ·obtain⟨q1,q2⟩:=L b hb;refine⟨q1,q2.imp id λq=> ?_⟩;rcases q with q|⟨j',G,u',n,hub'⟩
    ·exact⟨i,t, .inl rfl,ht,q⟩
    ·exact⟨j',u', .inr G,n,hub'⟩
   ·simp[pY] at hb)
  (λj j' u u' b l G hjj d n hb hb'=>by
   rcases A j u l d with⟨e1,rfl⟩|rfl
   ·rcases A j' u' G n with⟨e2,rfl⟩|rfl
    ·exact hjj (e1.trans e2.symm)
    ·simp[pY] at hb'
   ·simp[pY] at hb)
  (λj u l d=>by
   rcases A j u l d with⟨_,rfl⟩|rfl
   ·exact hnd
   ·rw[pY];exact gh)
  (λj e' l c=>by
   rcases p j l with rfl|⟨q1,q2⟩|q
   ·rw[x] at c;injection c with c;subst c;refine⟨?_,ai _⟩;rcases O with⟨h,_⟩|h
    ·have:=(r.hp.vers _ e hi).1;simp only;omega
    ·simp only;omega
   ·rw[y j q1 q2] at c;injection c with c;subst c;exact⟨ai _,ai _⟩
   ·have:=lt_of_some c;simp only at this;omega)
  (λj e0 e' u u' l z c d n=>by
   rcases l with rfl|l
   ·rw[x] at c;injection c with c;subst c;rw[hi] at z;injection z with z;subst z;rw[ht] at d;injection d with d;subst d;rw[v] at n;injection n with n;subst n;refine⟨λH=> ?_,eN _,Q⟩;rcases O with h|h
    ·exact h
    ·simp only at H;omega
   ·have hl:=lt_of_some z;rw[y j l hl] at c;injection c with c;subst c;exact⟨λH=>by simp only at H;omega,eN _,λh=>by cases h⟩)
  (λhev j u e' l d c=>by
   rcases p j l with rfl|⟨q1,q2⟩|q
   ·rw[x] at c;injection c with c;subst c;rw[v] at d;injection d with d;subst d;exact hok _ _ hev
   ·rw[y j q1 q2] at c;injection c with c;subst c;trivial
   ·have:=lt_of_some c;simp only at this;omega)
 exact⟨β',r.go h1 h2,v,h2⟩
def lK (β:List Tr)(ids:List Nat):List Nat:=(ids.map λj=>match β[j]? with|some t=>t.all|none=>[]).flatten
def yZ {ids:List Nat}{b:Nat}(h:b∈lK β ids):∃j∈ids,∃u,β[j]? =some u/\b∈u.all:=by
 simp only[lK,jo,cg] at h;obtain⟨l,⟨j,d,rfl⟩,hb⟩:=h;cases c:β[j]? with
 |none=>simp[c] at hb
 |some u=>simp only[c] at hb;exact⟨j,d,u,c,hb⟩
def aZf (H:Hp C E s.m β w){ids:List Nat}(h:ids.Nodup):(lK β ids).Nodup:=by
 unfold lK;refine im.2 ⟨λl hl=> ?_,?_⟩
 ·obtain⟨j,_,rfl⟩:=cg.1 hl;cases d:β[j]? with
  |none=>exact gh
  |some u=>exact H.nd j u d
 ·rw[gz];refine h.imp λ{j j'} e b hb b' hb'=> ?_;rintro rfl;cases d:β[j]? with
  |none=>simp[d] at hb
  |some u=>
   cases c:β[j']? with
   |none=>simp[c] at hb'
   |some u'=>simp only[d] at hb;simp only[c] at hb';exact H.dist j j' u u' b e d c hb hb'
def aB6 {i j:List Nat}:lK β (i++j)=lK β i++lK β j:=by simp[lK]
def aWs (H:Hp C E s.m β w){kd:Kd}{x y:Lf U}{ids:List Nat}{d:Bool}(h:bAw s.m kd x=some (y,ids,d)){v:Value}(hm:x.mean C w (E.X β) β s.m v)(hK:∀τ,kd= .sl τ->0<U.K τ):Ow C w (E.X β) d v y (lK β ids):=by
 have flat:∀{x:Lf U},x.mean C w (E.X β) β s.m v->pI x=true->(∀τ l,x≠ .sl τ l)->(match tY s.m x with|some y=>some (y,([]:List Nat),true)|none=>none)=some (y,ids,d)->Ow C w (E.X β) d v y (lK β ids):=λ{x} hm f j h=>by
  cases hr:tY s.m x with
  |none=>simp[hr] at h
  |some y'=>
   simp only[hr,aj,cU] at h;obtain⟨rfl,rfl,rfl⟩:=h;have:=(Hl H hm hr (Z:=λ_=>False) (λ_ h=>h.elim) (.inl f)).2;have hb:lK β []=[]:=rfl;rw[hb];cases x with
   |int k n=>simp only[tY,aj] at hr;subst hr;obtain⟨rfl,h1,h2⟩:=this.aAP;exact .int h1 h2
   |bool k=>simp only[tY,aj] at hr;subst hr;obtain rfl:=this.aAX;exact .bool
   |str k=>simp only[tY,aj] at hr;subst hr;obtain⟨rfl,h1⟩:=this.aAV;exact .str h1
   |nat c=>
    simp only[tY] at hr;split at hr
    ·simp only[aj] at hr;subst hr;obtain⟨rfl,h1,h2⟩:=this.aAP;exact .int h1 h2
    ·cases hr
   |lt c n=>
    simp only[tY] at hr;split at hr
    ·simp only[aj] at hr;subst hr;obtain rfl:=this.aAX;exact .bool
    ·cases hr
   |sl τ l=>exact absurd rfl (j τ l)
   |own=>cases f
   |bor=>cases f
   |inn=>cases f
   |_=>cases hr
 cases x with
 |nil=>
  obtain rfl:=hm;cases kd with
  |sl τ=>simp only[bAw,aj,cU] at h;obtain⟨rfl,rfl,rfl⟩:=h;exact .sl aGw (hK τ rfl) (World.ownsRow_nil w 0 τ (U.K τ)) .n
  |_=>cases h
 |sl τ l=>simp only[bAw,aj,cU] at h;obtain⟨rfl,rfl,rfl⟩:=h;exact .fz rfl hm
 |own i q=>
  obtain⟨_,e,t,k1,k2,k3⟩:=hm;simp only[bAw,aW,k1] at h;obtain⟨ob,rv,cv⟩:=e;cases ob with
  |tree τ d' l=>
   cases hb:Nat.beq rv q with
   |false=>simp[hb] at h
   |true=>simp only[hb,ac,aj,cU] at h;obtain⟨rfl,rfl,rfl⟩:=h;rw[k3 (ah hb)];have:=Hp.tree H k2 k1 rfl;simpa[lK,k2] using this
  |_=>cases h
 |bor=>cases h
 |inn=>cases h
 |suf i c τ q l=>
  obtain⟨_,e,t,k1,k2,k3⟩:=hm;simp only[bAw,aW,k1] at h;obtain⟨ob,rv,cv⟩:=e;cases ob with
  |tree τ' d' l'=>
   cases hb:Nat.beq cv c with
   |false=>simp[hb] at h
   |true=>simp only[hb,ac,aj,cU] at h;obtain⟨rfl,rfl,rfl⟩:=h;obtain⟨d0,o,B,p,rfl⟩:=k3 (ah hb);injection o with r u z;subst r;subst u;obtain rfl:=ey z;obtain⟨h1,xs,h2,A⟩:=H.ok i t _ k2 k1;have:=Ow.su rfl t q.toNat h1 p h2 A.soft;simpa[lK,k2] using this
  |_=>cases h
 |int k n=>exact flat hm rfl (by simp) h
 |bool b=>exact flat hm rfl (by simp) h
 |str b=>exact flat hm rfl (by simp) h
 |nat c=>exact flat hm rfl (by simp) h
 |lt c n=>exact flat hm rfl (by simp) h
 |_=>cases h
def Ow.fl {X:Nat->Prop}{d d':Bool}{v:Value}{x:Lf U}{B:List Nat}(h:Ow C w X d v x B)(hd:d'=true->d=true):Ow C w X d' v x B:=by
 cases d' with
 |false=>exact h.soft
 |true=>rw[hd rfl] at h;exact h
def OwL.fl {X:Nat->Prop}{d d':Bool}{v:List Value}{x:List (Lf U)}{B:List Nat}(h:OwL C w X d v x B)(hd:d'=true->d=true):OwL C w X d' v x B:=by
 cases d' with
 |false=>exact h.soft
 |true=>rw[hd rfl] at h;exact h
def Ho (H:Hp C E s.m β w):∀{ks:List Kd} {xs ys:List (Lf U)} {ids:List Nat} {d:Bool} {vs:List Value},aGo s.m ks xs=some (ys,ids,d)->Ms C w (E.X β) β s.m vs xs->(∀kd∈ks,∀τ,kd= .sl τ->0<U.K τ)->OwL C w (E.X β) d vs ys (lK β ids)
 |[],[],ys,ids,d,vs,h,e,_=>by
  simp only[aGo,aj,cU] at h;obtain⟨rfl,rfl,rfl⟩:=h;have:vs=[]:=ce e.1;subst this;exact .n
 |[],_::_,_,_,_,_,h,_,_=>by cases h
 |_::_,[],_,_,_,_,h,_,_=>by cases h
 |kd::ks,x::xs,ys,ids,d,vs,h,e,hK=>by
  simp only[aGo] at h;cases h1:bAw s.m kd x with
  |none=>simp[h1] at h
  |some q=>
   obtain⟨y,i,d1⟩:=q;cases h2:aGo s.m ks xs with
   |none=>simp[h1,h2] at h
   |some q2=>
    obtain⟨j,is,ds⟩:=q2;simp only[h1,h2,aj,cU] at h;obtain⟨rfl,rfl,rfl⟩:=h
    match vs,e with
    |[],e=>have:=e.1;simp at this
    |v::vs,e=>rw[aB6];refine .c ((aWs H h1 (e.2 0 v x rfl rfl) (hK kd (by simp))).fl (by simp;exact λh _=>h)) ((Ho H h2 ⟨by have:=e.1;simpa using this,λi u c a b=>e.2 (i+1) u c (by simpa using a) (by simpa using b)⟩ (λf hk=>hK f (by simp[hk]))).fl (by simp))
end
end Go.EV
namespace Go.EV
open Go.RowKit Go.VK
variable {U:Uni} {Y:Lay U} {TI:List (Nat×TInfo)} {P:Program} {g:GI} {E:Env U g}
def kdL:Lf U->Option Kd
 | .int k _=>some (.int k)
 | .bool _=>some .bool
 | .str _=>some .str
 | .sl τ _=>some (.sl τ)
 |_=>none
def bMj {cs:List (Lf U)}{ks:List Kd}(h:cs.map kdL=ks.map some):∀c∈cs,c.aBB=true:=λc hc=>by
 have h1:kdL c∈cs.map kdL:=cg.2 ⟨c,hc,rfl⟩;rw[h] at h1;obtain⟨k,_,hk⟩:=cg.1 h1;cases c<;>first|rfl|cases hk
structure LayOk (Y:Lay U):Prop where
 kds:∀(τ:Nat) (x:U.El τ),(Y.C.cel τ x).map kdL=(Y.kd τ).map some
 pos:∀(τ τ':Nat),Kd.sl τ'∈Y.kd τ->0<U.K τ'
section
variable {s:St U} {a:Act} {w:World} {β:List Tr} {α:Type}
def SO (P:Program)(C:Cod U)(E:Env U g)(a:Act)(w:World)(o:Oper)(x:Sv U)(s':St U)(e:Bool):Prop:=
 ∀(K:Act->World->Prop) (Q:Exit->Act->World->Prop),(∀v w' β',bN C E s' a w' β'->(o.dst≠none->x.mean C w' (E.X β') β' s'.m v)->(e=true->Ext w w')->K (a.put o.dst v) w')->o.wp P a w K Q
def SO.aDP (r:bN Y.C E s a w β){o:Oper}{x:Sv U}(h:MO P Y.C E s a w β o.op x):SO P Y.C E a w o x s true:=λK Q hK=>by
 obtain⟨v,h1,h2⟩:=h o rfl;exact wpo (.inl (h1 w (Ext.refl w))) (hK v w β r (λ_=>h2) (λ_=>Ext.refl w))
def SO.soft {o:Oper}{x:Sv U}{s':St U}{e:Bool}{C:Cod U}(h:SO P C E a w o x s' e):SO P C E a w o x s' false:=λK Q hK=>h K Q λv w' β' h1 h2 _=>hK v w' β' h1 h2 (λh=>by cases h)
def bMk (w:World)(cs:Array Value)(T:Nat):(w.alloc (.cells cs T)).heap[w.heap.size]? =some (.cells cs T (0,0)):=by simpa using heap_alloc_new w _
def bN.aDA (r:bN Y.C E s a w β){T:Nat}{vs:Array Value}{cs:List (Lf U)}(d:Ms Y.C w (E.X β) β s.m vs.toList cs):
  ∃β',bN Y.C E (psh s (.box T cs (cs.map λ_=>s.m.k))) a (w.alloc (.cells vs T)) β'/\(Lf.box (len s.m.o) 0:Lf U).mean Y.C (w.alloc (.cells vs T)) (E.X β') β' (psh s (.box T cs (cs.map λ_=>s.m.k))).m (.pointer (some ⟨w.heap.size,0,none⟩)):=by
 have he:Ext w (w.alloc (.cells vs T)):=Ext.alloc _ _;have r':=r.add he [(⟨.box T cs (cs.map λ_=>s.m.k),s.m.k,s.m.k⟩,⟨some w.heap.size,0,0,[]⟩)] (by simp) (by simp[Tr.all]) (by simp[Tr.all]) (λb x c=>by
  simp at c;subst c;exact⟨by simp,w.heap.size,vs.toList,rfl,rfl,by simpa using bMk w vs T,d.go b⟩)
 refine⟨_,r',rfl,⟨.box T cs (cs.map λ_=>s.m.k),s.m.k,s.m.k⟩,⟨some w.heap.size,0,0,[]⟩,?_,?_,λ_=>⟨_,rfl,rfl⟩⟩
 ·simp[psh,bS]
 ·rw[aE (by rw[r.hp.len,bS];exact ai _),r.hp.len,bS];simp
def bI7 (r:bN Y.C E s a w β){o:Oper}{T:TypeId}{x:Operand}(ho:o.op= .box T x){cs:List (Lf U)}(hp:parts (wI s x)=some cs)(h1:Hf cs=true):
  SO P Y.C E a w o (.l (.box (len s.m.o) 0)) (psh s (.box T cs (cs.map λ_=>s.m.k))) true:=λK Q hK=>by
 have b:=(zT (kW r (x:=x)) hp h1).1;obtain⟨β',c,d⟩:=r.aDA (T:=T) b;refine wpo (w':=w.alloc (.cells (a.eval x).cells T)) (v:= .pointer (some ⟨w.heap.size,0,none⟩)) (.inl ?_) (hK _ _ β' c (λ_=>d) (λ_=>Ext.alloc _ _));simp[execOp,ho,Instr.box,newVar,newRow]
def bBd (b:rW P TI=true)(r:bN Y.C E s a w β){o:Oper}{T:TypeId}{i:TInfo}(ho:o.op= .alloc T)(f:kE TI T=some i):
  SO P Y.C E a w o (.l (.box (len s.m.o) 0)) (psh s (.box T (i.z.map Kz.lf) (i.z.map λ_=>s.m.k))) true:=λK Q hK=>by
 obtain⟨j,z,k3,k4,k5⟩:=aN6 (bU b f);have h:Ms Y.C w (E.X β) β s.m z.cells.toList (i.z.map Kz.lf):=Rv k5;obtain⟨β',c,d⟩:=r.aDA (T:=T) h;have e:((i.z.map (Kz.lf:Kz->Lf U)).map λ_=>s.m.k)=i.z.map λ_=>s.m.k:=by simp
 rw[e] at c d;refine wpo (w':=w.alloc (.cells z.cells T)) (v:= .pointer (some ⟨w.heap.size,0,none⟩)) (.inl ?_) (hK _ _ β' c (λ_=>d) (λ_=>Ext.alloc _ _));simp[execOp,ho,Instr.alloc,zeroValue,typeInfo,k3,k4,newVar,newRow]
def bN.aDI (r:bN Y.C E s a w β){τ n:Nat}{cells:Array Value}{l:List (U.El τ)}{d:Bool}(hk:0<U.K τ)(hn:l.length=n)(hm:n<=maxLen)(hsz:cells.size=n*U.K τ)
  (e:OwL Y.C w (E.X β) d cells.toList (l.map (Y.C.cel τ)).flatten []):
  ∃β',bN Y.C E (psh s (.tree τ d l)) a (w.alloc (.cells cells τ)) β'/\(Lf.own (len s.m.o) s.m.k:Lf U).mean Y.C (w.alloc (.cells cells τ)) (E.X β') β' (psh s (.tree τ d l)).m (.slice (some ⟨w.heap.size,0,none⟩) n n):=by
 have he:Ext w (w.alloc (.cells cells τ)):=Ext.alloc _ _;have r':=r.add he [(⟨.tree τ d l,s.m.k,s.m.k⟩,⟨some w.heap.size,n,n,[]⟩)] (by simp) (by simp[Tr.all]) (by simp[Tr.all]) (λb x c=>by
  simp at c;subst c;refine⟨hk,cells.toList,?_,e.conv b.sz b.hX b.hc (by simp)⟩;rw[hn];exact World.ownsRow_lit w cells n (cy _) hm hsz)
 refine⟨_,r',⟨ai _,rfl⟩,⟨.tree τ d l,s.m.k,s.m.k⟩,⟨some w.heap.size,n,n,[]⟩,?_,?_,λ_=>rfl⟩
 ·simp[psh,bS]
 ·rw[aE (by rw[r.hp.len,bS];exact ai _),r.hp.len,bS];simp
def OwL.flatten {C:Cod U}{X:Nat->Prop}{d:Bool}:∀{vss:List (List Value)} {xss:List (List (Lf U))},vss.length=xss.length->(∀(i:Nat) (vs:List Value) (xs:List (Lf U)),vss[i]? =some vs->xss[i]? =some xs->OwL C w X d vs xs [])->OwL C w X d vss.flatten xss.flatten []
 |[],[],_,_=> .n
 |[],_::_,h,_=>by simp at h
 |_::_,[],h,_=>by simp at h
 |vs::vss,xs::xss,h,h1=>by
  have:=OwL.app (h1 0 vs xs rfl rfl) (OwL.flatten (vss:=vss) (xss:=xss) (by simpa using h) λi vs xs a b=>h1 (i+1) vs xs (by simpa using a) (by simpa using b));simpa using this
def bBe (hY:LayOk Y)(r:bN Y.C E s a w β){e:Nat}:∀{ks:List Kd} {b:List Kz} {ds:List (Lf U)} {vs:List Value},rds s.m ks (b.map Kz.lf)=some ds->bEf vs b=true->(∀τ',Kd.sl τ'∈ks->0<U.K τ')->OwL Y.C w (E.X β) true vs ds []
 |[],[],ds,[],h,_,_=>by simp only[eJ,rds,aj] at h;subst h;exact .n
 |[],_::_,_,_,h,_,_=>by cases h
 |_::_,[],_,_,h,_,_=>by cases h
 |_,[],_,_::_,_,h,_=>by cases h
 |_,_::_,_,[],_,h,_=>by cases h
 |kd::ks,z::b,ds,v::vs,h,d,hp=>by
  simp only[bo,rds] at h;simp only[bEf,ab] at d;cases h1:rdn s.m kd (z.lf:Lf U) with
  |none=>simp[h1] at h
  |some y=>
   cases h2:rds s.m ks (b.map (Kz.lf:Kz->Lf U)) with
   |none=>simp[h1,h2] at h
   |some ys=>
    simp only[h1,h2,aj] at h;subst h;have hm:(z.lf:Lf U).mean Y.C w (E.X β) β s.m v:=bGy d.1;have ho:Ow Y.C w (E.X β) true v y []:=by
     cases z with
     |int k=>simp only[Kz.lf,rdn,tY,aj] at h1;subst h1;obtain⟨rfl,q1,q2⟩:=hm;exact .int q1 q2
     |bool=>simp only[Kz.lf,rdn,tY,aj] at h1;subst h1;obtain rfl:=hm;exact .bool
     |str=>simp only[Kz.lf,rdn,tY,aj] at h1;subst h1;obtain⟨rfl,q1⟩:=hm;exact .str q1
     |nil=>
      obtain rfl:=hm;cases kd with
      |sl τ=>simp only[Kz.lf,rdn,aj] at h1;subst h1;exact .sl aGw (hp τ (by simp)) (World.ownsRow_nil w 0 τ (U.K τ)) .n
      |_=>cases h1
    have:=OwL.c ho (bBe hY r (e:=e) h2 d.2 (λτ' f=>hp τ' (by simp[f])));simpa using this
def bI8 {x y:Operand}(h:aOy x y=true):x=y:=by
 cases x<;>cases y<;>simp only[aOy] at h
 ·rw[ah h]
 all_goals first|cases h|skip
 rename_i v u;split at h<;>simp_all
def bEh (D:rW P TI=true)(hY:LayOk Y)(r:bN Y.C E s a w β){o:Oper}{t:TypeId}{x y:Operand}{e ek eb k:Nat}{zz:List Kz}{i:TInfo}{n:Int}{ds:List (Lf U)}{z:U.El e}(ho:o.op= .makeSlice t x y)
  (h1:kE TI t=some ⟨.sl e ek eb,k,zz⟩) (h2:kE TI e=some i) (h3:fV s x= .l (.int .i64 n)) (h4:aOy x y=true) (h5:Nat.ble eb 2048=true) (h6:Lr (U:=U) e ek e=true) (h7:rds s.m (Y.kd e) (i.z.map Kz.lf)=some ds) (h8:Y.C.bld e ds=some z) (hg:bT0 n):
  SO P Y.C E a w o (.l (.own (len s.m.o) s.m.k)) (psh s (.tree e true (List.replicate n.toNat z))) true:=λK Q hK=>by
 have L:=(Dk (bU D h1) rfl).1;obtain⟨O,R,b,F,G,S,T,V,H⟩:=gQ L;obtain⟨j,zc,k3,k4,k5⟩:=aN6 (bU D h2);rw[F] at k3;injection k3 with k3;subst k3;rw[G] at k4;injection k4 with k4;subst k4;simp only[Lr,ab] at h6;have p:U.K e=ek:=ah h6.2;have hb':eb<=2048:=bf h5;have W:((n.toNat:Nat):Int)=n:=fy hg.1;have hN:n.toNat<=68719476736:=by have:=hg.2;omega
 have hb:(R.bytes:Int)*n<=281474976710656:=by
  have h:((R.bytes*n.toNat:Nat):Int)<=281474976710656:=by rw[T];have:eb*n.toNat<=2048*68719476736:=ip hb' hN;omega
  rw[Int.natCast_mul,W] at h;exact h
 have I:a.eval x= .int .i64 n:=(oC r h3).1;have Z:a.eval y= .int .i64 n:=by rw[<-bI8 h4];exact I
 have B:=run_make (P:=P) w t e R b O F G .i64 .i64 n n hg.1 (cP _) hb (by have:=hg.2;omega);rw[S,<-p] at B;have hO:OwL Y.C w (E.X β) true b.cells.toList (Y.C.cel e z) []:=by have:=bBe hY r (e:=e) h7 k5 (λτ' hh=>hY.pos e τ' hh);rw[Y.C.hmk e ds z h8] at this;exact this
 have u:(madeCells b.cells (n.toNat*U.K e)).toList=(List.replicate n.toNat b.cells.toList).flatten:=by
  apply List.ext_getElem?;intro q;have c:b.cells.size=U.K e:=by rw[V,p]
  have hkp:0<U.K e:=by rw[p];exact H
  by_cases hq:q<n.toNat*U.K e
  ·obtain⟨q0,q1,A,rfl⟩:∃q0 q1,q1<U.K e/\q=q0*U.K e+q1:=⟨q/U.K e,q%U.K e,Nat.mod_lt _ hkp,by rw[fw];exact(ie q _).symm⟩;have J:q0<n.toNat:=ka (Nat.lt_of_le_of_lt (cM _ _) hq);obtain⟨l1,l2,_,_,f3,f4⟩:=aBw (f:=λ(_:Unit)=>b.cells.toList) (k:=U.K e) (λ_=>by simp[c]) (l:=List.replicate n.toNat ()) (i:=q0) (x:=()) (by rw[List.getElem?_replicate,cQ J]);have em:((List.replicate n.toNat ()).map λ(_:Unit)=>b.cells.toList)=List.replicate n.toNat b.cells.toList:=by simp
   rw[em] at f3;have hR:(List.replicate n.toNat b.cells.toList).flatten[q0*U.K e+q1]? =b.cells.toList[q1]? :=by rw[f3,<-f4,aE (cM _ _),cT,av (by simp[c];exact A)]
   rw[hR];have hm:(q0*U.K e+q1)%U.K e=q1:=by rw[fw,Nat.mul_add_mod];exact jn A
   simp only[madeCells,Array.toList_map,bm,Array.toList_range,dx hq,cW,c,hm];rw[getElem!_pos b.cells q1 (by rw[c];exact A)];simp[c,A]
  ·rw[dm (by simp[size_madeCells];omega),dm (by simp[c];omega)]
 obtain⟨β',r1,r2⟩:=r.aDI (τ:=e) (n:=n.toNat) (cells:=madeCells b.cells (n.toNat*U.K e)) (l:=List.replicate n.toNat z) (d:=true) (by rw[p];exact H) (by simp) (by unfold maxLen;omega) (size_madeCells _ _) (by
  rw[u,List.map_replicate];exact OwL.flatten (by simp) λi vs xs q1 q2=>by
   rw[List.getElem?_replicate] at q1 q2;split at q1
   ·rw[cQ ‹_›] at q2;injection q1 with q1;injection q2 with q2;subst q1;subst q2;exact hO
   ·cases q1)
 refine wpo (w':=w.alloc (.cells (madeCells b.cells (n.toNat*U.K e)) e)) (v:= .slice (some ⟨w.heap.size,0,none⟩) n.toNat n.toNat) (.inl ?_) (hK _ _ β' r1 (λ_=>r2) (λ_=>Ext.alloc _ _));simp only[execOp,ho,I,Z,Sem.run_bind,B,Result.andThen_ok,Sem.run_pure]
end
end Go.EV
namespace Go.EV
open Go.RowKit Go.VK
variable {U:Uni} {Y:Lay U} {TI:List (Nat×TInfo)} {P:Program} {g:GI} {E:Env U g}
section
variable {s:St U} {a:Act} {w:World} {β:List Tr} {α:Type}
theorem aZg {t:Nat}{i:TInfo}(h:tiB P t i=true)(w:World):(sizeOf t).run P w= .ok i.k w:=by
 cases hi:i.u with
 |int k=>have:=Ru h hi;simp_all[uX]
 |bool=>have:=aB2 h hi;simp_all[uX]
 |str=>have:=Lu h hi;simp_all[uX]
 |sl e ek eb=>have:=Dk h hi;simp_all[uX]
 |st fs=>exact(zQ (aB3 h hi).1).2
def aB7 (u:rW P TI=true)(r:bN Y.C E s a w β){o:Oper}{t:TypeId}{x y:Operand}{i:TInfo}{b off T rv cv:Nat}{cs ps:List (Lf U)}{q:List Nat}(ho:o.op= .store t x y)
  (h1:kE TI t=some i) (h2:fV s x= .l (.box b off)) (S:parts (wI s y)=some ps) (z:s.m.o[b]? =some ⟨.box T cs q,rv,cv⟩) (A:ps.length=i.k) (I:off+i.k<=cs.length) (V:Hf ps=true):
  ∃(w':World) (β':List Tr) (t':Tr) (f:Nat),(execOp a.eval o).run P w= .ok .skip w'/\bN Y.C E (trn s b (.box T (spl cs off ps) (spl q off (ps.map λ_=>Nat.succ s.m.k))) rv) a w' β'/\Evo w w' (E.X β) (E.X β') β β' s.m (trn s b (.box T (spl cs off ps) (spl q off (ps.map λ_=>Nat.succ s.m.k))) rv).m s.m.o.length s.m.ns.length s.m.k/\Bel (λk=>k=f) w w'/\β[b]? =some t'/\t'.b=some f:=by
 have B:=bU u h1;obtain⟨d,h⟩:=zT (kW r (x:=y)) S V;have D:=oC r h2;obtain⟨_,e',t',k1,k2,k3⟩:=D;rw[z] at k1;injection k1 with k1;subst k1;obtain⟨f,k4,k5⟩:=k3 rfl;have F:=r.hp.ok b t' _ k2 z;obtain⟨q0,b',vs,q1,q2,q3,q4⟩:=F;rw[k4] at q1;injection q1 with q1;subst q1;have hl:off+(a.eval y).cells.toList.length<=vs.length:=by rw[d.1,A,q4.1];exact I
 have L:=aGl (P:=P) (T:=T) (t:=t) (b:=f) (off:=off) (cur:=vs) (vs:=(a.eval y).cells.toList) (v:=a.eval y) (w:=w) (by simp) (by rw[d.1,A];exact aZg B w) q3 hl h;obtain⟨O,Q,f3,R,W⟩:=Lj w f (vs.take off++(a.eval y).cells.toList++vs.drop (off+(a.eval y).cells.toList.length)).toArray;obtain⟨β',Z,_,e⟩:=r.turn (J:=[]) (ob:= .box T (spl cs off ps) (spl q off (ps.map λ_=>Nat.succ s.m.k))) (rv:=rv) (t':=t') z k2 (by simp) (by omega) Q f3 R
  (by grind[Tr.root,k4]) (λk hk=>⟨by rw[O];exact(r.hp.new b t' k k2 hk).2, .inr (.inl hk)⟩) (r.hp.nd b t' k2) (.inl ⟨rfl,rfl⟩) (λ_=>⟨rfl,rfl⟩) (λβ' m' e=>by
   have G:(spl cs off ps).length=cs.length:=by
    grind[Lt]
   refine⟨?_,f,_,k4,q2,setRow_heap _ _ _ _ _ _ q3,?_⟩
   ·grind[q0,Lt]
   ·have hg:=d.go e;have hq:=q4.go e;refine⟨by rw[G,<-q4.1];simp only[ax,bv,cz];omega,λj v c n p=> ?_⟩;rw[Ll _ _ _ _ hl] at n;rw[Lt _ _ _ (by rw[A];exact I),Ll _ _ _ _ (by omega)] at p;rw[d.1] at n;split at n
    ·rename_i H;rw[cQ H] at p;exact hg.2 _ v c n p
    ·rename_i H;rw[dk H] at p;exact hq.2 _ v c n p)
 refine⟨w.setRow f (vs.take off++(a.eval y).cells.toList++vs.drop (off+(a.eval y).cells.toList.length)).toArray,β',t',f,?_,Z,e,⟨Q,f3,R,by rw[O];exact ai _,λk _ hk=>W k hk⟩,k2,k4⟩
 grind[execOp,k5,Instr.storeAt,Instr.sureAddr,Sem.run_bind,Sem.run_pure,Result.andThen_ok]
def aPe (c:rW P TI=true)(r:bN Y.C E s a w β){o:Oper}{t:TypeId}{x y:Operand}{i:TInfo}{b off T rv cv:Nat}{cs ps:List (Lf U)}{d:List Nat}(ho:o.op= .store t x y)
  (h1:kE TI t=some i) (h2:fV s x= .l (.box b off)) (e:parts (wI s y)=some ps) (f:s.m.o[b]? =some ⟨.box T cs d,rv,cv⟩) (j:ps.length=i.k) (n:off+i.k<=cs.length) (p:Hf ps=true):
  SO P Y.C E a w o (.l .any) (trn s b (.box T (spl cs off ps) (spl d off (ps.map λ_=>Nat.succ s.m.k))) rv) false:=λK Q hK=>by
 obtain⟨w',β',t',v,q,u,_,_,_,_⟩:=aB7 c r ho h1 h2 e f j n p;exact wpo (.inr ⟨q,rfl⟩) (hK _ _ β' u (λ_=>trivial) (λh=>by cases h))
def bI9 {A M b D:List Nat}(h:(A++(M++D)).Nodup)(c:b.Nodup)(hd:∀x,x∈b->x∉A++(M++D)):(A++(b++D)).Nodup:=by
 grind
def bEi {α:Type}(l:List α)(off n:Nat)(h:off+n<=l.length):l=l.take off++((l.drop off).take n++l.drop (off+n))/\(l.take off).length=off/\((l.drop off).take n).length=n:=by refine⟨?_,by simp;omega,by simp;omega⟩;rw[<-kh,cJ,cJ]
def aWt {C:Cod U}{X:Nat->Prop}{d d':Bool}{t:Tr}{b τ q off:Nat}{L:List (U.El τ)}{z z':U.El τ}{xs vs:List Value}{ds:List (Lf U)}{D:List Nat}(hb:t.b=some b)
  (hown:w.ownsRow 0 τ (U.K τ) t.val L.length xs) (hc:OwL C w X d xs (L.map (C.cel τ)).flatten t.bs) (R:L[q]? =some z) (S:OwL C w X d' vs ds D) (hl:off+vs.length<=U.K τ)
  (T:C.cel τ z'=(C.cel τ z).take off++(ds++(C.cel τ z).drop (off+vs.length))):
  ∃(cur:Array Value) (A M Z:List Nat),w.heap[b]? =some (.cells cur τ (0,0))/\q*U.K τ+off+vs.length<=cur.toList.length/\t.bs=A++(M++Z)/\
   ∀(w':World) (X':Nat->Prop),w.heap.size<=w'.heap.size->(∀b,b<w.heap.size->X' b->X b)->(∀(p:Addr) (u:Value),¬X p.block->w.cell? p=some u->w'.cell? p=some u)->
    w'.heap[b]? =some (.cells (cur.toList.take (q*U.K τ+off)++vs++cur.toList.drop (q*U.K τ+off+vs.length)).toArray τ (0,0))->(∀k,k≠b->w'.heap[k]? =w.heap[k]?)->b∉t.bs->b∉D->
    ∃j,w'.ownsRow 0 τ (U.K τ) t.val L.length j/\OwL C w' X' (d&&d') j ((L.set q z').map (C.cel τ)).flatten (A++(D++Z)):=by
 obtain⟨l1,l2,x1,V,x2,y,Bz,B,g1,g2,W,g4,g5,g6,o1,H,o3⟩:=aY9 hc R;obtain⟨s1,s2,s3⟩:=bEi (C.cel τ z) off vs.length (by rw[C.hlen];exact hl);rw[s1] at H;obtain⟨i,zr,Bz1,Bzr,e1,e2,I,p2⟩:=OwL.split H;obtain⟨J,F,Bz2,Bz3,e3,e4,p3,p4⟩:=OwL.split p2;have G:i.length=off:=by rw[I.len,s2]
 have hz2:J.length=vs.length:=by rw[p3.len,s3]
 rcases fF hown with⟨b1,_⟩|⟨b',cur,b1,b2,b3,b4,b5,b6,b7⟩
 ·grind
 rw[hb] at b1;injection b1 with b1;subst b1;have hxs:cur.toList=(x1++(V++x2))++cur.toList.drop (L.length*U.K τ):=by rw[<-W,<-b7,cJ]
 have O:cur.toList=(x1++i)++(J++(F++(x2++cur.toList.drop (L.length*U.K τ)))):=by
  grind
 have hpos:q*U.K τ+off=(x1++i).length:=by rw[ax,g4,G]
 have l:cur.toList.take (q*U.K τ+off)++vs++cur.toList.drop (q*U.K τ+off+vs.length)=(x1++((i++(vs++F))++x2))++cur.toList.drop (L.length*U.K τ):=by
  rw[hpos]
  grind[List.append_assoc,List.drop_drop,List.drop_left,List.take_left]
 refine⟨cur,y++Bz1,Bz2,Bz3++B,b5,by grind,by simp[*],λw' X' n o r Q c5 c6 c7=> ?_⟩;rw[l] at Q;have hne:∀k,(k∈y\/k∈Bz1\/k∈Bz3\/k∈B)->w'.heap[k]? =w.heap[k]? :=λk hk=>(by grind);have v:(x1++((i++(vs++F))++x2)).length=L.length*U.K τ:=by
  have:=hown.1
  grind
 have x:L.set q z'=l1++z'::l2:=by simp[*]
 refine⟨x1++((i++(vs++F))++x2),⟨v, .inr ⟨b,t.c,_,?_,cy _,Q,b3,b4,?_,?_⟩⟩,?_⟩
 ·grind[Tr.val]
 ·grind
 ·simp only[List.toList_toArray];rw[<-v,ke]
 ·rw[x,cX,eh,bo,cR,T];have e:(d&&d')=true->d=true:=λh=>by grind
  have f:(d&&d')=true->d'=true:=(by simp);rw[show(y++Bz1)++(D++(Bz3++B))=y++((Bz1++(D++Bz3))++B) by simp];exact OwL.app ((o1.conv n o r (by grind[inl])).fl e)
   (OwL.app (OwL.app ((I.conv n o r (by grind[inl])).fl e)
    (OwL.app ((S.conv n o r (λk hk=>(by grind))).fl f) ((p4.conv n o r (by grind[inl])).fl e)))
    ((o3.conv n o r (λk hk=>(by grind))).fl e))
def bQn {C:Cod U}{X:Nat->Prop}{d:Bool}{B:List Nat}{τ τ' q j:Nat}{L:List (U.El τ)}{z:U.El τ}{l:List (U.El τ')}{xs:List Value}(hc:OwL C w X d xs (L.map (C.cel τ)).flatten B)(G:L[q]? =some z)(e:(C.cel τ z)[j]? =some (.sl τ' l)):
  ∃(v:Value) (A i Z:List Nat),xs[q*U.K τ+j]? =some v/\Ow C w X d v (.sl τ' l) i/\B=A++(i++Z)/\
   ∀(w':World) (X':Nat->Prop) (d2:Bool) (l':List (U.El τ')) (f:U.El τ) (B':List Nat),w.heap.size<=w'.heap.size->(∀b,b<w.heap.size->X' b->X b)->(∀(p:Addr) (u:Value),¬X p.block->w.cell? p=some u->w'.cell? p=some u)->
    (∀k,k∈A\/k∈Z->w'.heap[k]? =w.heap[k]?)->(d2=true->d=true)->Ow C w' X' d2 v (.sl τ' l') B'->C.cel τ f=(C.cel τ z).take j++(.sl τ' l'::(C.cel τ z).drop (j+1))->OwL C w' X' d2 xs ((L.set q f).map (C.cel τ)).flatten (A++(B'++Z)):=by
 obtain⟨l1,l2,x1,xz,x2,x,Bz,y,H,I,J,g4,g5,g6,O,D,Q⟩:=aY9 hc G;have h:j<(C.cel τ z).length:=lt_of_some e;have s1:C.cel τ z=(C.cel τ z).take j++((.sl τ' l)::(C.cel τ z).drop (j+1)):=by rw[ae h] at e;injection e with e;rw[<-e,<-co h,cJ]
 rw[s1] at D;obtain⟨R,zr,Bz1,Bzr,S,e2,F,T⟩:=OwL.split D;have V:R.length=j:=by rw[F.len,bv];omega
 cases T with
 | @c v _ i Br vs _ hv hr=>
  refine⟨v,x++Bz1,i,Br++y,?_,hv,by simp[*],λw' X' d2 l' f B' n o r c4 t W c7=> ?_⟩
  ·simp[*]
  ·rw[show L.set q f=l1++f::l2 by rw[H,<-I];simp,cX,eh,bo,cR,c7,J,S];rw[show(x++Bz1)++(B'++(Br++y))=x++((Bz1++(B'++Br))++y) by simp];exact OwL.app ((O.conv n o r (by grind[inl])).fl t)
    (OwL.app (OwL.app ((F.conv n o r (by grind[inl])).fl t) (.c W ((hr.conv n o r (λk hk=>(by grind))).fl t)))
     ((Q.conv n o r (λk hk=>(by grind))).fl t))
def bBf {ids:List Nat}{b:Nat}{t t2:Tr}(r:bN Y.C E s a w β)(k2:β[b]? =some t)(l:(b::ids).Nodup){A M Z:List Nat}(h1:t.all=A++(M++Z))(h2:t2.all=A++(lK β ids++Z)):
  t2.all.Nodup/\(∀k∈t2.all,k<w.heap.size/\(w.heap.size<=k\/k∈t.all\/∃j∈ids,∃u,β[j]? =some u/\k∈u.all))/\∀k,k∈lK β ids->k∉t.all:=by
 have d:∀k,k∈lK β ids->k∉t.all:=λk hk f=>by
  obtain⟨j,i,u,e,c⟩:=yZ hk;exact r.hp.dist j b u t k (by grind[List.nodup_cons]) e k2 c f
 refine⟨?_,λk hk=> ?_,d⟩
 ·rw[h2];exact bI9 (h1▸r.hp.nd b t k2) (aZf r.hp (cE.1 l).2) (by simp_all)
 ·have:k∈t.all\/k∈lK β ids:=by
   grind
  rcases this with h|h
  ·exact⟨(r.hp.new b t k k2 h).2, .inr (.inl h)⟩
  ·obtain⟨j,i,u,e,c⟩:=yZ h;exact⟨(r.hp.new j u k e c).2, .inr (.inr ⟨j,i,u,e,c⟩)⟩
def aL4 (H:rW P TI=true)(hY:LayOk Y)(r:bN Y.C E s a w β){o:Oper}{t:TypeId}{x y:Operand}{i:TInfo}{b c τ off rv cv:Nat}{q:Int}{z z':U.El τ}{d d':Bool}{L:List (U.El τ)}{ps ds:List (Lf U)}{ids:List Nat}(ho:o.op= .store t x y)
  (h1:kE TI t=some i) (h2:fV s x= .l (.oel b c τ q z off)) (h3:parts (wI s y)=some ps) (I:s.m.o[b]? =some ⟨.tree τ d L,rv,cv⟩) (O:cv=c) (h5:ps.length=i.k) (h6:off+i.k<=U.K τ) (h7:Hf ps=true)
  (h8:aGo s.m ((((Y.kd τ).drop off).take i.k)) ps=some (ds,ids,d')) (hJ:(b::ids).Nodup) (h9:Y.C.bld τ (spl (Y.C.cel τ z) off ds)=some z'):
  SO P Y.C E a w o (.l .any) ⟨s.t,⟨Zc (Nat.succ s.m.k) ids (upd s.m.o b ⟨.tree τ (d&&d') (L.set q.toNat z'),rv,Nat.succ s.m.k⟩),Nat.succ s.m.k,s.m.ns⟩,s.fr⟩ false:=λK Q hK=>by
 have hti:=bU H h1;obtain⟨p,u⟩:=zT (kW r (x:=y)) h3 h7;obtain⟨_,e',t',k1,k2,k3⟩:=oC r h2;rw[I] at k1;injection k1 with k1;subst k1;obtain⟨d0,L0,B,R,a2,a3,a4,a5⟩:=k3 O;injection R with _ R S;subst R;subst S;obtain⟨V,xs,c1,c2⟩:=r.hp.ok b t' _ k2 I;have hO:=Ho r.hp h8 p (λkd hk τ' e=>hY.pos τ τ' (by grind));have f:(a.eval y).cells.toList.length=i.k:=by rw[p.1,h5]
 have D:ds.length=i.k:=by rw[<-hO.len,f]
 obtain⟨cur,A,M,Z,f1,f2,f3,f4⟩:=aWt (d':=d') a4 c1 c2 a3 hO (by rw[f];exact h6) (z':=z') (by rw[<-Y.C.hmk τ _ z' h9,Lt _ _ _ (by rw[D,Y.C.hlen];exact h6),D,f,cq]);have F:=aGl (P:=P) (T:=τ) (t:=t) (b:=B) (off:=q.toNat*U.K τ+off) (cur:=cur.toList) (vs:=(a.eval y).cells.toList) (v:=a.eval y) (w:=w) (by simp) (by grind[aZg]) (by assumption) f2 u;generalize hN:(cur.toList.take (q.toNat*U.K τ+off)++(a.eval y).cells.toList++cur.toList.drop (q.toNat*U.K τ+off+(a.eval y).cells.toList.length)).toArray=N at F f4;obtain⟨n1,n2,n3,n4,n5⟩:=Lj w B N;have G:t'.all=(B::A)++(M++Z):=by grind[Tr.all]
 let t2:Tr:=⟨t'.b,t'.n,t'.c,A++(lK β ids++Z)⟩;obtain⟨m1,m2,m3⟩:=bBf (t2:=t2) r k2 hJ G (by grind[Tr.all]);have hnd:=r.hp.nd b t' k2;have W:B∉t'.bs:=(by simp_all);obtain⟨β',r1,_,_⟩:=r.turn (J:=ids) (ob:= .tree τ (d&&d') (L.set q.toNat z')) (rv:=rv) (t':=t2) I k2 hJ (by omega) n2 n3 n4
  (by grind[n5,Tr.root]) (by simp_all) m1 (.inl ⟨rfl,rfl⟩) (λh=>by cases h) (λβ' m' j=>by
   obtain⟨xs',p1,p2⟩:=f4 _ (E.X β') j.sz j.hX j.hc (setRow_heap _ _ _ _ _ _ f1) n5 W (by grind[Tr.root]);exact⟨V,xs',by rw[aw];exact p1,p2⟩)
 refine wpo (w':=w.setRow B N) (v:=undef) (.inr ⟨?_,rfl⟩) (hK _ _ β' r1 (λ_=>trivial) (λh=>by cases h))
 grind[execOp,Instr.storeAt,Instr.sureAddr,Sem.run_bind,Sem.run_pure,Result.andThen_ok]
def aUe (W:rW P TI=true)(hY:LayOk Y)(r:bN Y.C E s a w β){o:Oper}{t:TypeId}{x y:Operand}{i:TInfo}{b c τ τ' j off rv cv:Nat}{q q':Int}{z F:U.El τ}{z' G:U.El τ'}{l:List (U.El τ')}{d d':Bool}{L:List (U.El τ)}{ps ds:List (Lf U)}{ids:List Nat}(ho:o.op= .store t x y)
  (h1:kE TI t=some i) (h2:fV s x= .l (.oin b c τ q z j τ' l q' z' off)) (h3:parts (wI s y)=some ps) (h4:s.m.o[b]? =some ⟨.tree τ d L,rv,cv⟩) (hcv:cv=c) (h5:ps.length=i.k) (h6:off+i.k<=U.K τ') (h7:Hf ps=true)
  (h8:aGo s.m ((((Y.kd τ').drop off).take i.k)) ps=some (ds,ids,d')) (hJ:(b::ids).Nodup) (h9:Y.C.bld τ' (spl (Y.C.cel τ' z') off ds)=some G) (h10:Y.C.bld τ (upd (Y.C.cel τ z) j (.sl τ' (l.set q'.toNat G)))=some F):
  SO P Y.C E a w o (.l .any) ⟨s.t,⟨Zc (Nat.succ s.m.k) ids (upd s.m.o b ⟨.tree τ (d&&d') (L.set q.toNat F),rv,Nat.succ s.m.k⟩),Nat.succ s.m.k,s.m.ns⟩,s.fr⟩ false:=λK Q hK=>by
 have hti:=bU W h1;obtain⟨H,I⟩:=zT (kW r (x:=y)) h3 h7;obtain⟨_,e',t',k1,k2,k3⟩:=oC r h2;rw[h4] at k1;injection k1 with k1;subst k1;obtain⟨L0,xs,v0,p,n',c',a1,a2,a3,a4,a5,a6,a7,a8,a9,a10⟩:=k3 hcv;injection a1 with _ a1 a1';subst a1;subst a1';obtain⟨hk0,xs1,c1,c2⟩:=r.hp.ok b t' _ k2 h4;obtain rfl:=bA2 a5 c1;have hO:=Ho r.hp h8 H (λkd hk τ2 e=>hY.pos τ' τ2 (by grind));have B:(a.eval y).cells.toList.length=i.k:=by rw[H.1,h5]
 have O:ds.length=i.k:=by rw[<-hO.len,B]
 obtain⟨v1,A,B0,Z,d1,d2,d3,d4⟩:=bQn c2 a3 a4;rw[a6] at d1;injection d1 with d1;subst d1;cases d2 with
 |fz hd=>cases hd
 |su hd=>cases hd
 |sl u hk hown hc=>
  have hub:=bSw a7;obtain⟨cur,A1,M,Z1,f1,f2,f3,f4⟩:=aWt (d':=d') hub hown hc a9 hO (by rw[B];exact h6) (z':=G) (by rw[<-Y.C.hmk τ' _ G h9,Lt _ _ _ (by rw[O,Y.C.hlen];exact h6),O,B,cq]);have R:=aGl (P:=P) (T:=τ') (t:=t) (b:=p) (off:=q'.toNat*U.K τ'+off) (cur:=cur.toList) (vs:=(a.eval y).cells.toList) (v:=a.eval y) (w:=w) (by simp) (by grind[aZg]) (by assumption) f2 I;generalize hN:(cur.toList.take (q'.toNat*U.K τ'+off)++(a.eval y).cells.toList++cur.toList.drop (q'.toNat*U.K τ'+off+(a.eval y).cells.toList.length)).toArray=N at R f4;obtain⟨n1,n2,n3,n4,n5⟩:=Lj w p N;let u2:Tr:=⟨u.b,u.n,u.c,A1++(lK β ids++Z1)⟩;let t2:Tr:=⟨t'.b,t'.n,t'.c,A++(u2.all++Z)⟩;have S:t'.all=(t'.b.toList++(A++(p::A1)))++(M++(Z1++Z)):=by grind[Tr.all,d3]
  obtain⟨m1,m2,m3⟩:=bBf (t2:=t2) r k2 hJ S (by grind[u2,Tr.all]);have hin:p∈t'.all:=by simp[*]
  have V:=r.hp.nd b t' k2;have D:t'.all=(t'.b.toList++A)++(p::(u.bs++Z)):=by simp[*]
  rw[D,ez,cE] at V;have hA:∀k,k∈t'.b.toList\/k∈A\/k∈Z->k≠p:=λk hk e=>by
   grind
  obtain⟨β',r1,_,_⟩:=r.turn (J:=ids) (ob:= .tree τ (true&&d') (L.set q.toNat F)) (rv:=rv) (t':=t2) h4 k2 hJ (by omega) n2 n3 n4
   (by grind[n5]) (by simp at*;omega) m1 (.inl ⟨rfl,rfl⟩) (λh=>by cases h) (λβ' m' f=>by
    obtain⟨ys,p1,p2⟩:=f4 _ (E.X β') f.sz f.hX f.hc (setRow_heap _ _ _ _ _ _ f1) n5 (λh=>V.2.1.1 (by simp[h])) (λh=>m3 _ h hin);refine⟨hk0,xs,by rw[aw];exact oU c1 (λk hk=>n5 k (hA k (.inl (by rw[show t'.b=some k from hk];simp)))),?_⟩;refine d4 _ (E.X β') (true&&d') (l.set q'.toNat G) F u2.all f.sz f.hX f.hc (by grind[n5]) (λ_=>rfl) (.sl u2 hk (by rw[aw];exact p1) p2) ?_;rw[<-Y.C.hmk τ _ F h10,dM,List.set_eq_take_append_cons_drop,cQ (lt_of_some a4)])
  refine wpo (w':=w.setRow p N) (v:=undef) (.inr ⟨?_,rfl⟩) (hK _ _ β' r1 (λ_=>trivial) (λh=>by cases h))
  grind[execOp,Instr.storeAt,Instr.sureAddr,Sem.run_bind,Sem.run_pure,Result.andThen_ok]
end
end Go.EV
namespace Go.EV
open Go.RowKit Go.VK
variable {U:Uni} {Y:Lay U} {TI:List (Nat×TInfo)} {P:Program} {g:GI} {E:Env U g}
section
variable {s:St U} {a:Act} {w:World} {β:List Tr} {α:Type}
def O6 {t:TypeId}{e k bts n:Nat}{ps:Array (Nat×Operand)}{vs:List Value}(ht:slB P t e k bts=true)(hn:vs.length=n)(I:n*k<=16777216)(l:(ps.toList.map λ(i,x)=>(i,a.eval x))=(vs.zipIdx 0|>.map λ(v,j)=>(j,v)))(hsz:∀v∈vs,v.cells.size=k){o:Oper}(ho:o.op= .buildSlice t n ps):
  ∃cells:Array Value,(execOp a.eval o).run P w= .ok (.value (.slice (some ⟨w.heap.size,0,none⟩) n n)) (w.alloc (.cells cells e))/\cells.toList=(vs.map λv=>v.cells.toList).flatten:=by
 obtain⟨p,i,z,hi,F,r,J,L,y⟩:=gQ ht;have hz0:∃zc:Array Value,(if n*k=0 then(pure #[]:Sem (Array Value)) else do pure (<-zeroValue e).cells).run P w= .ok zc w:=by
  by_cases h:n*k=0
  ·exact⟨#[],by simp[h]⟩
  ·exact⟨z.cells,by simp[h,zeroValue,typeInfo,hi,F]⟩
 obtain⟨zc,c⟩:=hz0;obtain⟨res,A,O,R,Q⟩:=aGm k vs 0 ((Array.range (n*k)).map (zc[·%zc.size]!)) hsz (by simp[hn]);have B:res.size=n*k:=by rw[O];simp
 refine⟨res,?_,?_⟩
 ·have hp:((ps.map λ(i,x)=>(i,a.eval x)):Array (Nat×Value)).toList=((vs.zipIdx 0).map λ(v,j)=>(j,v)):=by rw[<-l];simp
  simp only[execOp,ho,Instr.buildSlice,Sem.run_bind,run_underlying p,Result.andThen_ok];have hs:(sizeOf e).run P w= .ok k w:=by simp[sizeOf,typeInfo,hi,r]
  simp only[hs,Result.andThen_ok];rw[dk (by omega)];by_cases h:n*k=0
  ·have b:zc= #[]:=by simp[h] at c;exact c
   subst b;simp only[h,ia,Sem.run_bind,Sem.run_pure,Result.andThen_ok];rw[h] at A;simp only[hp,A,newRow,Sem.run_bind,run_newObj,Sem.run_pure,Result.andThen_ok];rfl
  ·simp only[h,if_false,Sem.run_bind,Sem.run_pure] at c ⊢;have b:((zeroValue e).run P w).andThen (λa w'=>Result.ok a.cells w')= .ok zc w:=c;have d:(zeroValue e).run P w= .ok z w:=by simp[zeroValue,typeInfo,hi,F]
   rw[d] at b;simp only[Result.andThen_ok,Result.ok.injEq,and_true] at b;simp only[d,Result.andThen_ok,b,hp,A,newRow,Sem.run_bind,run_newObj,Sem.run_pure];rfl
 ·have hlen:(vs.map λv=>v.cells.toList).flatten.length=n*k:=by
   have:∀(vs:List Value),(∀v∈vs,v.cells.size=k)->(vs.map λv=>v.cells.toList).flatten.length=vs.length*k:=by
    intro vs;induction vs with
    |nil=>simp
    |cons v vs D=>intro h;simp only[bo,cR,ax,cI,h v (by simp),D (λv hv=>h v (by simp[hv])),au,di];omega
   rw[this vs hsz,hn]
  apply List.ext_getElem?;intro q;by_cases hq:q<n*k
  ·obtain⟨q0,q1,f,rfl⟩:∃q0 q1,q1<k/\q=q0*k+q1:=⟨q/k,q%k,Nat.mod_lt _ y,by rw[fw];exact(ie q _).symm⟩;have G:q0<n:=ka (Nat.lt_of_le_of_lt (cM _ _) hq);have hv:vs[q0]? =some (vs[q0]'(by omega)):=ae _;have H:=Q q0 q1 _ hv f;rw[cj] at H;have key:∀(vs:List Value) (q0:Nat) (v:Value),(∀v∈vs,v.cells.size=k)->vs[q0]? =some v->(vs.map λv=>v.cells.toList).flatten[q0*k+q1]? =v.cells.toList[q1]? :=by
    intro vs;induction vs with
    |nil=>intro q0 v _ h;simp at h
    |cons u vs D=>
     intro q0 v h hv;cases q0 with
     |zero=>simp at hv;subst hv;simp only[bo,cR,Nat.zero_mul,cj];rw[av (by simp[h u (by simp)];exact f)]
     |succ q0=>
      simp only[bo,cR];have p:u.cells.toList.length=k:=by simp[h u (by simp)]
      rw[show(q0+1)*k+q1=u.cells.toList.length+(q0*k+q1) by rw[p,di];omega,aE (cM _ _),cT];exact D q0 v (λv hv=>h v (by simp[hv])) (by simpa using hv)
   rw[key vs q0 _ hsz hv];simpa using H
  ·rw[dm (by simp[B];omega),dm (by omega)]
def bJa (hY:LayOk Y)(r:bN Y.C E s a w β){e:Nat}{x:Operand}{z:U.El e}{ids:List Nat}{d:Bool}(h:bQb Y s e (fV s x)=some (z,ids,d)):
  OwL Y.C w (E.X β) d (a.eval x).cells.toList (Y.C.cel e z) (lK β ids):=by
 unfold bQb at h;cases hp:parts (fV s x) with
 |none=>simp[hp] at h
 |some cs=>
  cases b:aGo s.m (Y.kd e) cs with
  |none=>simp[hp,b] at h
  |some q=>
   obtain⟨ds,ids',d'⟩:=q;cases hb:Y.C.bld e ds with
   |none=>simp[hp,b,hb] at h
   |some z'=>
    simp only[hp,b,hb,aj,cU] at h;obtain⟨rfl,rfl,rfl⟩:=h;rw[<-Y.C.hmk e ds z' hb];have hm:=zS r (x:=x);cases ho:fV s x with
    |l y=>
     rw[ho] at hm hp;simp only[parts,aj] at hp;subst hp;cases hk:Y.kd e with
     |nil=>rw[hk] at b;cases b
     |cons kd ks=>
      rw[hk] at b;simp only[aGo] at b;cases h1:bAw s.m kd y with
      |none=>simp[h1] at b
      |some q1=>
       obtain⟨y',v,d1⟩:=q1;have ho:=aWs r.hp h1 hm (λτ e'=>hY.pos e τ (by rw[hk,e'];simp));have:(a.eval x).cells= #[a.eval x]:=Xv ho.one;rw[this];refine Ho r.hp (ks:=kd::ks) (xs:=[y]) (by simp only[aGo];exact b) ⟨rfl,λi u c j n=> ?_⟩ (λk f τ e'=>hY.pos e τ (by rw[hk];subst e';exact f));cases i with
       |zero=>simp at j n;subst j;subst n;exact hm
       |succ i=>simp at j
    |a o=>rw[ho] at hm hp;simp only[parts,aj] at hp;subst hp;obtain⟨vs,hv,p⟩:=hm;rw[hv];exact Ho r.hp b p (λk f τ e'=>hY.pos e τ (by subst e';exact f))
    |t xs=>rw[ho] at hp;cases hp
def Ma (hY:LayOk Y)(r:bN Y.C E s a w β){e:Nat}:∀{ps:List (Nat×Operand)} {n:Nat} {l:List (U.El e)} {ids:List Nat} {d:Bool},Rt Y s e n ps=some (l,ids,d)->
  ∃vs:List Value,(ps.map λ(i,x)=>(i,a.eval x))=(vs.zipIdx n|>.map λ(v,j)=>(j,v))/\vs.length=ps.length/\l.length=ps.length/\(∀v∈vs,v.cells.size=U.K e)/\OwL Y.C w (E.X β) d (vs.map λv=>v.cells.toList).flatten (l.map (Y.C.cel e)).flatten (lK β ids)
 |[],n,l,ids,d,h=>by
  simp only[Rt,aj,cU] at h;obtain⟨rfl,rfl,rfl⟩:=h;exact⟨[],rfl,rfl,rfl,by simp, .n⟩
 |(i,x)::ps,n,l,ids,d,h=>by
  simp only[Rt] at h;cases hb:Nat.beq i n with
  |false=>simp[hb] at h
  |true=>
   have b:i=n:=ah hb;subst b;simp only[hb,ac] at h;cases h1:bQb Y s e (fV s x) with
   |none=>simp[h1] at h
   |some q=>
    obtain⟨z,f,d1⟩:=q;cases h2:Rt Y s e (Nat.succ i) ps with
    |none=>simp[h1,h2] at h
    |some q2=>
     obtain⟨k,o,d2⟩:=q2;simp only[h1,h2,aj,cU] at h;obtain⟨rfl,rfl,rfl⟩:=h;obtain⟨vs,k1,k2,k3,k4,k5⟩:=Ma hY r h2;have c:=bJa hY r h1;refine⟨a.eval x::vs,by simp[gO,k1],by simp[k2],by simp[k3],λv hv=> ?_,?_⟩
     ·rcases ba.1 hv with rfl|hv
      ·have:=c.len;rw[Y.C.hlen] at this;simpa using this
      ·exact k4 v hv
     ·rw[aB6];simp only[bo,cR];exact OwL.app (c.fl (by simp;exact λh _=>h)) (k5.fl (by simp))
def bBg (j:rW P TI=true)(hY:LayOk Y)(r:bN Y.C E s a w β){o:Oper}{t:TypeId}{n e ek eb k:Nat}{y:List Kz}{ps:Array (Nat×Operand)}{l:List (U.El e)}{d:Bool}(ho:o.op= .buildSlice t n ps)
  (h1:kE TI t=some ⟨.sl e ek eb,k,y⟩) (h2:ps.toList.length=n) (z:n*ek<=16777216) (x:Lr (U:=U) e ek e=true) (A:Rt Y s e 0 ps.toList=some (l,[],d)):SO P Y.C E a w o (.l (.sl e l)) s true:=λK Q hK=>by
 have c:=(Dk (bU j h1) rfl).1;obtain⟨_,_,_,_,_,_,_,_,f⟩:=gQ c;simp only[Lr,ab] at x;have i:U.K e=ek:=ah x.2;obtain⟨vs,k1,k2,k3,k4,k5⟩:=Ma hY r A;rw[i] at k4;obtain⟨cells,q1,q2⟩:=O6 (w:=w) c (k2.trans h2) z k1 k4 ho;have he:Ext w (w.alloc (.cells cells e)):=Ext.alloc _ _;have q:n<=maxLen:=by have:n*1<=n*ek:=fx _ f;unfold maxLen;omega
 refine wpo (w':=w.alloc (.cells cells e)) (v:= .slice (some ⟨w.heap.size,0,none⟩) n n) (.inl q1) (hK _ _ β (r.ext he) (λ_=> ?_) (λ_=>he));have hown:(w.alloc (.cells cells e)).ownsRow 0 e (U.K e) (.slice (some ⟨w.heap.size,0,none⟩) n n) l.length cells.toList:=by
  rw[k3,h2];exact World.ownsRow_lit w cells n (cy _) q (by
   have hc:cells.size=cells.toList.length:=by simp
   rw[hc,q2,k5.len,He (Y.C.hlen e),k3,h2])
 exact Ow.rd (X:=E.X β) (Z:=E.X β) (λ_ h=>h) (Ow.sl ⟨some w.heap.size,n,n,[]⟩ (by rw[i];exact f) hown (by
  rw[q2];exact k5.conv he.size (λb _ h=>h) (λp u _ hc=>he.cell hc) (λb hb=>absurd (show b∈([]:List Nat) from hb) (by simp)))) (λb hb B=>by
  simp[Tr.all] at hb;subst hb;exact Nat.lt_irrefl _ (r.hp.aCK _ B))
def bBh (D:rW P TI=true)(hY:LayOk Y)(r:bN Y.C E s a w β){o:Oper}{t:TypeId}{n e ek eb k:Nat}{W:List Kz}{ps:Array (Nat×Operand)}{l:List (U.El e)}{ids:List Nat}{d:Bool}(ho:o.op= .buildSlice t n ps)
  (h1:kE TI t=some ⟨.sl e ek eb,k,W⟩) (h2:ps.toList.length=n) (Z:n*ek<=16777216) (R:Lr (U:=U) e ek e=true) (h5:Rt Y s e 0 ps.toList=some (l,ids,d)) (q:(s.m.o.length::ids).Nodup):
  SO P Y.C E a w o (.l (.own (len s.m.o) s.m.k)) ⟨s.t,⟨Zc (Nat.succ s.m.k) ids (upd (s.m.o++[⟨.dead,s.m.k,s.m.k⟩]) (len s.m.o) ⟨.tree e d l,s.m.k,Nat.succ s.m.k⟩),Nat.succ s.m.k,s.m.ns⟩,s.fr⟩ true:=λK Q hK=>by
 have y:=(Dk (bU D h1) rfl).1;obtain⟨_,_,_,_,_,_,_,_,z⟩:=gQ y;simp only[Lr,ab] at R;have A:U.K e=ek:=ah R.2;obtain⟨vs,k1,k2,k3,k4,k5⟩:=Ma hY r h5;rw[A] at k4;obtain⟨cells,q1,q2⟩:=O6 (w:=w) y (k2.trans h2) Z k1 k4 ho;have he:Ext w (w.alloc (.cells cells e)):=Ext.alloc _ _;have F:n<=maxLen:=by have:n*1<=n*ek:=fx _ z;unfold maxLen;omega
 have r1:=r.add he [((⟨.dead,s.m.k,s.m.k⟩:EO U),(⟨some w.heap.size,n,n,[]⟩:Tr))] (by simp) (by simp[Tr.all]) (by simp[Tr.all]) (λ_ x i=>by simp at i;subst i;trivial);have G:(s.m.o++[(⟨.dead,s.m.k,s.m.k⟩:EO U)])[s.m.o.length]? =some ⟨.dead,s.m.k,s.m.k⟩:=by simp
 have H:(β++[(⟨some w.heap.size,n,n,[]⟩:Tr)])[s.m.o.length]? =some ⟨some w.heap.size,n,n,[]⟩:=by rw[<-r.hp.len];simp
 have S:∀j∈ids,∀u,(β++[(⟨some w.heap.size,n,n,[]⟩:Tr)])[j]? =some u->β[j]? =some u:=λj B u f=>by
  have I:j≠s.m.o.length:=λe=>(cE.1 q).1 (e▸B);by_cases hl:j<β.length
  ·rwa [av hl] at f
  ·have:=lt_of_some f;simp at this;rw[r.hp.len] at this hl;omega
 have hbl:lK (β++[(⟨some w.heap.size,n,n,[]⟩:Tr)]) ids=lK β ids:=by
  unfold lK;congr 1;apply gt;intro j B;by_cases hl:j<β.length
  ·rw[av hl]
  ·have I:j≠s.m.o.length:=λe=>(cE.1 q).1 (e▸B);rw[dm (by simp;rw[r.hp.len] at hl ⊢;omega),dm (by omega)]
 obtain⟨β',T,V,r4⟩:=r1.turn (w':=w.alloc (.cells cells e)) (J:=ids) (ob:= .tree e d l) (rv:=s.m.k) (t':=⟨some w.heap.size,n,n,lK β ids⟩) G H q (ai _) rfl rfl rfl (λ_ _ _=>rfl)
  (λb hb=>by
   simp only[Tr.all,eS,cN,bu,ba] at hb;rcases hb with rfl|hb
   ·exact⟨by simp, .inr (.inl (by simp[Tr.all]))⟩
   ·obtain⟨j,B,u,f,c⟩:=yZ hb;have:=(r.hp.new j u b f c).2;refine⟨by simp;omega, .inr (.inr ⟨j,B,u,?_,c⟩)⟩;rw[av (lt_of_some f)];exact f)
  (by
   simp only[Tr.all,eS,cN,bu];rw[cE];refine⟨λhb=> ?_,aZf r.hp (cE.1 q).2⟩;obtain⟨j,_,u,f,c⟩:=yZ hb;have:=(r.hp.new j u _ f c).2;omega)
  (.inl ⟨rfl,rfl⟩) (λh=>by cases h) (λβ' m' L=>by
   refine⟨by rw[A];exact z,cells.toList,?_,?_⟩
   ·rw[k3,h2];exact World.ownsRow_lit w cells n (cy _) F (by
     have hc:cells.size=cells.toList.length:=by simp
     rw[hc,q2,k5.len,He (Y.C.hlen e),k3,h2])
   ·rw[q2];have O:∀b,b<w.heap.size->E.X (β++[(⟨some w.heap.size,n,n,[]⟩:Tr)]) b->E.X β b:=λb hb i=>by
     rcases i with h|h|⟨u,f,c⟩
     ·exact .inl h
     ·exact .inr (.inl h)
     ·rcases bw.1 f with f|f
      ·exact .inr (.inr ⟨u,f,c⟩)
      ·simp at f;subst f;simp[Tr.all] at c;omega
    exact k5.conv he.size (λb hb i=>O b hb (L.hX b (cm hb he.size) i)) (λp u _ hc=>he.cell hc) (λb hb=>by
     obtain⟨j,_,u,f,c⟩:=yZ hb;exact he.block b (r.hp.new j u b f c).2))
 rw[<-bS] at T V;refine wpo (w':=w.alloc (.cells cells e)) (v:= .slice (some ⟨w.heap.size,0,none⟩) n n) (.inl q1) (hK _ _ β' T (λ_=> ?_) (λ_=>he));refine⟨⟨dy _,rfl⟩,⟨.tree e d l,s.m.k,Nat.succ s.m.k⟩,_,?_,V,λ_=>rfl⟩;rw[yY (by rw[bS];exact(cE.1 q).1),dM,bh (by rw[bS];simp)]
end
end Go.EV
