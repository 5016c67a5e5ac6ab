import Derived.Test.YtfllllgehgablaaGreatDoorVKltos
/-
  THE EVALUATOR'S KIT, first part: symbolic values, states, and what it means that a run's memory stands as a state says. Plain definitions and theorems over any program; the conditions stand in each.
-/
set_option linter.all false
namespace Go.EV
open Go.RowKit Go.VK
structure Uni where
 El:Nat->Type
 K:Nat->Nat
 enc:(τ:Nat)->El τ->List V
inductive Lf (U:Uni) where
 |int (k:IntKind) (n:Int)
 |bool (b:Bool)
 |str (s:ByteArray)
 |nat (a:Nat)
 |lt (a:Nat) (m:Int)
 |sl (τ:Nat) (l:List (U.El τ))
 |nil
 |own (i r:Nat)
 |bor (i c τ:Nat) (l:List (U.El τ))
 |inn (i c τ:Nat) (q:Int) (z:U.El τ) (j τ':Nat) (l:List (U.El τ'))
 |box (i off:Nat)
 |ptr (τ:Nat) (z:U.El τ) (off:Nat)
 |oel (i c τ:Nat) (q:Int) (z:U.El τ) (off:Nat)
 |oin (i c τ:Nat) (q:Int) (z:U.El τ) (j τ':Nat) (l:List (U.El τ')) (q':Int) (z':U.El τ') (off:Nat)
 |suf (i c τ:Nat) (q:Int) (l:List (U.El τ))
 |und
 |any
variable {U:Uni}
def Lf.toV:Lf U->V
 | .int k n=> .int k n
 | .bool b=> .bool b
 | .str s=> .str s
 | .sl τ l=> .slice (U.K τ) (l.map (U.enc τ))
 | .nil=> .nil
 |_=> .any
def Lf.aAZ:Lf U->Bool
 | .int .. | .bool _| .str _| .sl .. =>true
 |_=>false
structure Cod (U:Uni) where
 cel:(τ:Nat)->U.El τ->List (Lf U)
 bld:(τ:Nat)->List (Lf U)->Option (U.El τ)
 hcel:∀τ x,(cel τ x).map Lf.toV=U.enc τ x
 hlen:∀τ x,(cel τ x).length=U.K τ
 hdat:∀τ x c,c∈cel τ x->c.aAZ=true
 hmk:∀τ cs x,bld τ cs=some x->cs=cel τ x
inductive Ob (U:Uni) where
 |dead
 |box (T:Nat) (cs:List (Lf U)) (vs:List Nat)
 |tree (τ:Nat) (d:Bool) (l:List (U.El τ))
def Ob.aAX:Ob U->Bool
 | .box .. =>true
 |_=>false
structure EO (U:Uni) where
 ob:Ob U
 rv:Nat
 cv:Nat
inductive Sv (U:Uni) where
 |l (x:Lf U)
 |a (cs:List (Lf U))
 |t (xs:List (Bool×List (Lf U)))
structure Mm (U:Uni) where
 o:List (EO U)
 k:Nat
 ns:List (Nat×Bool)
structure St (U:Uni) where
 t:List (Sv U)
 m:Mm U
 fr:List (List (Sv U))
structure Tr where
 b:Option Nat
 n:Nat
 c:Nat
 bs:List Nat
def Tr.val (t:Tr):Value:= .slice (t.b.map λb=>⟨b,0,none⟩) t.n t.c
def Tr.all (t:Tr):List Nat:=t.b.toList++t.bs
def aAf (K:Nat)(t:Tr)(q n:Nat):Value:= .slice (if t.c=q then t.b.map λb=>⟨b,0,none⟩ else(t.b.map λb=>(⟨b,0,none⟩:Addr)).map λp=>p.add (q*K)) (n-q) (t.c-q)
mutual
inductive Ow (C:Cod U) (w:World) (X:Nat->Prop) (d:Bool):Value->Lf U->List Nat->Prop
 |int {k:IntKind} {n:Int} (h1:k.min<=n) (h2:n<=k.max):Ow C w X d (.int k n) (.int k n) []
 |bool {b:Bool}:Ow C w X d (.bool b) (.bool b) []
 |str {s:ByteArray} (h:s.size<=maxLen):Ow C w X d (.string s) (.str s) []
 |fz {v:Value} {τ:Nat} {l:List (U.El τ)} (hd:d=false) (h:Rd w X [] v (.slice (U.K τ) (l.map (U.enc τ)))):Ow C w X d v (.sl τ l) []
 |sl {τ:Nat} {l:List (U.El τ)} {xs:List Value} (t:Tr) (hk:0<U.K τ) (hown:w.ownsRow 0 τ (U.K τ) t.val l.length xs) (hc:OwL C w X d xs (l.map (C.cel τ)).flatten t.bs):Ow C w X d t.val (.sl τ l) t.all
 |su {τ:Nat} {l:List (U.El τ)} {xs:List Value} (hd:d=false) (t:Tr) (q:Nat) (hk:0<U.K τ) (hq:q<=l.length) (hown:w.ownsRow 0 τ (U.K τ) t.val l.length xs) (hc:OwL C w X d xs (l.map (C.cel τ)).flatten t.bs):Ow C w X d (aAf (U.K τ) t q l.length) (.sl τ (l.drop q)) t.all
inductive OwL (C:Cod U) (w:World) (X:Nat->Prop) (d:Bool):List Value->List (Lf U)->List Nat->Prop
 |n:OwL C w X d [] [] []
 |c {v:Value} {x:Lf U} {B B':List Nat} {vs:List Value} {xs:List (Lf U)} (h:Ow C w X d v x B) (hr:OwL C w X d vs xs B'):OwL C w X d (v::vs) (x::xs) (B++B')
end
variable {C:Cod U}
def Tr.root {t:Tr}{b:Nat}(h:t.b=some b):b∈t.all:=by simp[Tr.all,h]
def mG {w w':World}{T k n:Nat}{t:Tr}{xs:List Value}(h:w.ownsRow 0 T k t.val n xs)(hh:∀b,t.b=some b->w'.heap[b]? =w.heap[b]?):w'.ownsRow 0 T k t.val n xs:=by
 refine⟨h.1,h.2.imp id ?_⟩
 rintro⟨gg,cap,cur,c1,c2,c3,c4⟩
 refine⟨gg,cap,cur,c1,c2,?_,c4⟩
 rw[hh gg ?_]
 ·exact c3
 ·cases hb:t.b with
  |none=>simp[Tr.val,hb] at c1
  |some b=>simp[Tr.val,hb] at c1;rw[c1.1]
section
variable {w w':World} {X X':Nat->Prop}
mutual
def Ow.conv {d:Bool}(hsz:w.heap.size<=w'.heap.size)(hX:∀b,b<w.heap.size->X' b->X b)(hcell:∀(p:Addr) (u:Value),¬X p.block->w.cell? p=some u->w'.cell? p=some u):
  ∀{v:Value} {x:Lf U} {B:List Nat},Ow C w X d v x B->(∀b∈B,w'.heap[b]? =w.heap[b]?)->Ow C w' X' d v x B
 |_,_,_, .int h1 h2,_=> .int h1 h2
 |_,_,_, .bool,_=> .bool
 |_,_,_, .str h,_=> .str h
 |_,_,_, .fz hd h,_=> .fz hd (h.conv hsz hX hcell (λ_ _ h=>h))
 |_,_,_, .sl t hk hown hc,hh=> .sl t hk (mG hown λb hb=>hh b (Tr.root hb)) (OwL.conv hsz hX hcell hc λb hb=>hh b (by simp[Tr.all,hb]))
 |_,_,_, .su hd t q hk hq hown hc,hh=> .su hd t q hk hq (mG hown λb hb=>hh b (Tr.root hb)) (OwL.conv hsz hX hcell hc λb hb=>hh b (by simp[Tr.all,hb]))
def OwL.conv {d:Bool}(hsz:w.heap.size<=w'.heap.size)(hX:∀b,b<w.heap.size->X' b->X b)(hcell:∀(p:Addr) (u:Value),¬X p.block->w.cell? p=some u->w'.cell? p=some u):
  ∀{vs:List Value} {xs:List (Lf U)} {B:List Nat},OwL C w X d vs xs B->(∀b∈B,w'.heap[b]? =w.heap[b]?)->OwL C w' X' d vs xs B
 |_,_,_, .n,_=> .n
 |_,_,_, .c h hr,hh=> .c (Ow.conv hsz hX hcell h λb hb=>hh b (by simp[hb])) (OwL.conv hsz hX hcell hr λb hb=>hh b (by simp[hb]))
end
mutual
def Ow.soft {d:Bool}:∀{v:Value} {x:Lf U} {B:List Nat},Ow C w X d v x B->Ow C w X false v x B
 |_,_,_, .int h1 h2=> .int h1 h2
 |_,_,_, .bool=> .bool
 |_,_,_, .str h=> .str h
 |_,_,_, .fz hd h=> .fz rfl h
 |_,_,_, .sl t hk hown hc=> .sl t hk hown (OwL.soft hc)
 |_,_,_, .su hd t q hk hq hown hc=> .su rfl t q hk hq hown (OwL.soft hc)
def OwL.soft {d:Bool}:∀{vs:List Value} {xs:List (Lf U)} {B:List Nat},OwL C w X d vs xs B->OwL C w X false vs xs B
 |_,_,_, .n=> .n
 |_,_,_, .c h hr=> .c (Ow.soft h) (OwL.soft hr)
end
def OwL.split {d:Bool}:∀{vs:List Value} {xs ys:List (Lf U)} {B:List Nat},OwL C w X d vs (xs++ys) B->∃v1 v2 B1 B2,vs=v1++v2/\B=B1++B2/\OwL C w X d v1 xs B1/\OwL C w X d v2 ys B2
 |vs,[],ys,B,h=>⟨[],vs,[],B,rfl,rfl, .n,h⟩
 |_,x::xs,ys,_, .c h hr=>by
  obtain⟨v1,v2,B1,B2,rfl,rfl,h1,h2⟩:=OwL.split hr
  exact⟨_::v1,v2,_,B2,rfl,by rw[ce], .c h h1,h2⟩
def OwL.app {d:Bool}:∀{v1 v2:List Value} {xs ys:List (Lf U)} {B1 B2:List Nat},OwL C w X d v1 xs B1->OwL C w X d v2 ys B2->OwL C w X d (v1++v2) (xs++ys) (B1++B2)
 |_,_,_,_,_,_, .n,h=>h
 |_,_,_,_,_,_, .c h hr,h2=>by rw[ce];exact .c h (OwL.app hr h2)
def OwL.len {d:Bool}:∀{vs:List Value} {xs:List (Lf U)} {B:List Nat},OwL C w X d vs xs B->vs.length=xs.length
 |_,_,_, .n=>rfl
 |_,_,_, .c _ hr=>by simp[OwL.len hr]
def Ow.one {d:Bool}{v:Value}{x:Lf U}{B:List Nat}(h:Ow C w X d v x B):v.oneCell'=true:=by
 cases h with
 |int=>rfl
 |bool=>rfl
 |str=>rfl
 |fz _ h=>exact Rd.one h rfl
 |sl=>rfl
 |su=>rfl
def OwL.ones {d:Bool}:∀{vs:List Value} {xs:List (Lf U)} {B:List Nat},OwL C w X d vs xs B->∀v∈vs,v.oneCell'=true
 |_,_,_, .n,v,hv=>by simp at hv
 |_,_,_, .c h hr,v,hv=>by
  rcases ba.1 hv with rfl|hv
  ·exact h.one
  ·exact OwL.ones hr v hv
mutual
def Ow.lt {d:Bool}:∀{v:Value} {x:Lf U} {B:List Nat},Ow C w X d v x B->∀b∈B,b<w.heap.size
 |_,_,_, .int _ _,b,hb=>by simp at hb
 |_,_,_, .bool,b,hb=>by simp at hb
 |_,_,_, .str _,b,hb=>by simp at hb
 |_,_,_, .fz _ _,b,hb=>by simp at hb
 |_,_,_, .sl t hk hown hc,b,hb=>by
  simp only[Tr.all,bw,iq] at hb
  rcases hb with hb|hb
  ·have hb:t.b=some b:=hb
   rcases hown.2 with⟨h5,_⟩|⟨gg,cap,cur,h5,_,h6,_⟩
   ·simp[Tr.val,hb] at h5
   ·simp[Tr.val,hb] at h5
    rw[h5.1];exact(bv.1 h6).1
  ·exact OwL.lt hc b hb
 |_,_,_, .su hd t q hk hq hown hc,b,hb=>by
  simp only[Tr.all,bw,iq] at hb
  rcases hb with hb|hb
  ·have hb:t.b=some b:=hb
   rcases hown.2 with⟨h5,_⟩|⟨gg,cap,cur,h5,_,h6,_⟩
   ·simp[Tr.val,hb] at h5
   ·simp[Tr.val,hb] at h5
    rw[h5.1];exact(bv.1 h6).1
  ·exact OwL.lt hc b hb
def OwL.lt {d:Bool}:∀{vs:List Value} {xs:List (Lf U)} {B:List Nat},OwL C w X d vs xs B->∀b∈B,b<w.heap.size
 |_,_,_, .n,b,hb=>by simp at hb
 |_,_,_, .c h hr,b,hb=>by
  rcases bw.1 hb with hb|hb
  ·exact Ow.lt h b hb
  ·exact OwL.lt hr b hb
end
end
def p9 {α β:Type}{f:α->List β}{k:Nat}(hk:∀x,(f x).length=k):∀{l:List α} {i:Nat} {x:α},l[i]? =some x->∃l1 l2,l=l1++x::l2/\l1.length=i/\(l.map f).flatten=(l1.map f).flatten++(f x++(l2.map f).flatten)/\(l1.map f).flatten.length=i*k
 |[],i,x,h=>by simp at h
 |y::l,0,x,h=>by simp at h;subst h;exact⟨[],l,rfl,rfl,rfl,by simp⟩
 |y::l,i+1,x,h=>by
  obtain⟨l1,l2,h1,h2,h3,h4⟩:=p9 hk (l:=l) (i:=i) (x:=x) (by simpa using h)
  refine⟨y::l1,l2,by rw[h1];rfl,by simp[h2],?_,?_⟩
  ·simp only[bm,cR,h3,ce]
  ·simp only[bm,cR,aw,h4,hk];rw[dr];omega
def Bp {α β:Type}{f:α->List β}{k:Nat}(hk:∀x,(f x).length=k):∀{l:List α},(l.map f).flatten.length=l.length*k
 |[]=>by simp
 |y::l=>by simp only[bm,cR,aw,Bp hk (l:=l),hk,av,dr];omega
def oN {w:World}{T k n:Nat}{t:Tr}{xs:List Value}(h:w.ownsRow 0 T k t.val n xs){b:Nat}(hb:t.b=some b){i:Nat}{v:Value}(hv:xs[i]? =some v):w.cell? (Addr.add ⟨b,0,none⟩ i)=some v:=by
 exact h.cells (g:=b) (by simp[Tr.val,hb,Value.ownBlock]) i v hv
def dO {w:World}{T k n:Nat}{t:Tr}{xs:List Value}(h:w.ownsRow 0 T k t.val n xs):(t.b=none/\n=0/\xs=[]/\t.n=0/\t.c=0)\/∃b cur,t.b=some b/\t.n=n/\n<=t.c/\t.c<=maxLen/\w.heap[b]? =some (.cells cur T (0,0))/\cur.size=t.c*k/\cur.toList.take (n*k)=xs:=by
 rcases h.2 with⟨h5,h6⟩|⟨gg,cap,cur,h5,_,h6,h7,h8,h9,h10⟩
 ·left
  cases hb:t.b with
  |some b=>simp[Tr.val,hb] at h5
  |none=>
   simp[Tr.val,hb] at h5
   refine⟨rfl,h6,bu ?_,h5.1,h5.2⟩
   rw[h.1,h6];simp
 ·right
  cases hb:t.b with
  |none=>simp[Tr.val,hb] at h5
  |some b=>
   simp[Tr.val,hb] at h5
   obtain⟨q1,q2,q3⟩:=h5
   subst q1;subst q2;subst q3
   exact⟨_,cur,rfl,rfl,h7,h8,h6,h9,h10⟩
def Lf.aCH {x:Lf U}(h:x.aAZ=true):x.toV.one=true:=by cases x<;>simp_all [Lf.aAZ,Lf.toV,V.one]
def bDe {C:Cod U}{w:World}{Z:Nat->Prop}{τ:Nat}{l:List (U.El τ)}{xs:List Value}(t:Tr)(hown:w.ownsRow 0 τ (U.K τ) t.val l.length xs)(hh:∀b∈t.all,¬Z b)
  (hcells:xs.length=((l.map (C.cel τ)).flatten).length/\∀(i:Nat) (v:Value) (x:Lf U),xs[i]? =some v->((l.map (C.cel τ)).flatten)[i]? =some x->Rd w Z [] v x.toV):Rd w Z [] t.val (.slice (U.K τ) (l.map (U.enc τ))):=by
 have hxl:=hcells.1
 rcases dO hown with⟨h1,h2,h3,h4,h5⟩|⟨b,cur,h1,h2,h3,h4,h5,h6,h7⟩
 ·have:l=[]:=bu h2
  subst this
  simp only[Tr.val,h1,h4,h5]
  exact .slice0 (cw _)
 ·simp only[Tr.val,h1,h2,cJ]
  cases hl:l with
  |nil=>exact .slice0 (by omega)
  |cons z0 l0=>
   rw[<-hl]
   have key:∀(i j:Nat) (e:List V) (dd:V),(l.map (U.enc τ))[i]? =some e->e[j]? =some dd->∃u,xs[i*U.K τ+j]? =some u/\Rd w Z [] u dd:=λi j e dd k1 k2=>by
    rw[bg] at k1
    cases hz:l[i]? with
    |none=>simp[hz] at k1
    |some z=>
     simp only[hz,cJ,ai] at k1
     subst k1
     obtain⟨l1,l2,g1,g2,g3,g4⟩:=p9 (C.hlen τ) hz
     rw[<-C.hcel,bg] at k2
     cases hx:(C.cel τ z)[j]? with
     |none=>simp[hx] at k2
     |some x=>
      simp only[hx,cJ,ai] at k2
      subst k2
      have hin:(l.map (C.cel τ)).flatten[i*U.K τ+j]? =some x:=by
       rw[g3,<-g4,ay (db _ _),cP,aq (aE.1 hx).1]
       exact hx
      have hlt:i*U.K τ+j<xs.length:=by rw[hxl];exact(aE.1 hin).1
      exact⟨_,ac hlt,hcells.2 _ _ _ (ac hlt) hin⟩
   refine .slice (val:=λi j=>xs.getD (i*U.K τ+j) undef) (by simp) (by simp[hl]) h3 h4 (hh b (Tr.root h1)) (bv.1 h5).1 (λe he=> ?_) (λi j e dd k1 k2=> ?_) (λi j e dd k1 k2=> ?_)
   ·obtain⟨z,_,rfl⟩:=cg.1 he
    rw[<-C.hcel,bl,C.hlen]
   ·obtain⟨u,k3,k4⟩:=key i j e dd k1 k2
    rw[oN hown h1 k3]
    simp[List.getD,k3]
   ·obtain⟨u,k3,k4⟩:=key i j e dd k1 k2
    simp only[List.getD,k3,cE]
    exact k4
mutual
def Ow.rd {w:World}{X Z:Nat->Prop}{d:Bool}(hZ:∀b,Z b->X b):∀{v:Value} {x:Lf U} {B:List Nat},Ow C w X d v x B->(∀b∈B,¬Z b)->Rd w Z [] v x.toV
 |_,_,_, .int h1 h2,_=> .int h1 h2
 |_,_,_, .bool,_=> .bool
 |_,_,_, .str h,_=> .str h
 |_,_,_, .fz hd h,_=>h.conv (aj _) (λb _ hb=>hZ b hb) (λ_ _ _ h=>h) (λ_ _ h=>h)
 |_,_,_, .sl t hk hown hc,hh=>bDe t hown hh (OwL.rd hZ hc (λb hb=>hh b (by simp[Tr.all,hb])))
 |_,_,_, .su (τ:=τ) (l:=l) hd t q hk hq hown hc,hh=>by
  have h:=bDe t hown hh (OwL.rd hZ hc (λb hb=>hh b (by simp[Tr.all,hb])))
  have hn:t.n=l.length:=by rcases dO hown with⟨_,h2,_,h4,_⟩|⟨_,_,_,h2,_⟩<;>omega
  have:=Rd.sub (show Rd w Z [] (.slice (t.b.map λb=>⟨b,0,none⟩) t.n t.c) (.slice (U.K τ) (l.map (U.enc τ))) from h) (a:=q) (b:=l.length) hq (by rw[bl];exact aj _)
  rw[dy (by rw[bl];exact aj _),<-fp] at this
  exact this
def OwL.rd {w:World}{X Z:Nat->Prop}{d:Bool}(hZ:∀b,Z b->X b):∀{vs:List Value} {xs:List (Lf U)} {B:List Nat},OwL C w X d vs xs B->(∀b∈B,¬Z b)->vs.length=xs.length/\∀(i:Nat) (v:Value) (x:Lf U),vs[i]? =some v->xs[i]? =some x->Rd w Z [] v x.toV
 |_,_,_, .n,_=>by simp
 |_,_,_, .c h hr,hh=>by
  have ih:=OwL.rd hZ hr (λb hb=>hh b (by simp[hb]))
  have h0:=Ow.rd hZ h (λb hb=>hh b (by simp[hb]))
  refine⟨by simp[ih.1],λi v x h1 h2=> ?_⟩
  cases i with
  |zero=>simp at h1 h2;subst h1;subst h2;exact h0
  |succ i=>exact ih.2 i v x (by simpa using h1) (by simpa using h2)
end
end Go.EV

namespace Go.EV
open Go.RowKit Go.VK
variable {U:Uni} {C:Cod U}
def Lf.mean (C:Cod U)(w:World)(X:Nat->Prop)(β:List Tr)(s:Mm U)(v:Value):Lf U->Prop
 | .int kd n=>v= .int kd n/\kd.min<=n/\n<=kd.max
 | .bool b=>v= .bool b
 | .str z=>v= .string z/\z.size<=maxLen
 | .nat a=>∃i f,s.ns[a]? =some (i,f)/\v= .int .i64 (i:Int)/\(i:Int)<=9223372036854775807
 | .lt a m=>∃i f,s.ns[a]? =some (i,f)/\v= .bool (decide ((i:Int)<m))/\m<=9223372036854775807
 | .sl τ l=>Rd w X [] v (.slice (U.K τ) (l.map (U.enc τ)))
 | .nil=>v= .slice none 0 0
 | .own i r=>(r<=s.k/\v.oneCell'=true)/\∃e t,s.o[i]? =some e/\β[i]? =some t/\(e.rv=r->v=t.val)
 | .bor i c τ l=>(c<=s.k/\v.oneCell'=true)/\∃e t,s.o[i]? =some e/\β[i]? =some t/\(e.cv=c->Rd w (λb=>X b/\b∉t.all) [] v (.slice (U.K τ) (l.map (U.enc τ))))
 | .inn i c τ q z j τ' l=>(c<=s.k/\v.oneCell'=true)/\∃e t,s.o[i]? =some e/\β[i]? =some t/\(e.cv=c->∃d L xs,e.ob= .tree τ d L/\0<=q/\L[q.toNat]? =some z/\(C.cel τ z)[j]? =some (.sl τ' l)/\w.ownsRow 0 τ (U.K τ) t.val L.length xs/\xs[q.toNat*U.K τ+j]? =some v)
 | .box i off=>v.oneCell'=true/\∃e t,s.o[i]? =some e/\β[i]? =some t/\(e.ob.aAX=true->∃b,t.b=some b/\v= .pointer (some ⟨b,off,none⟩))
 | .ptr τ z off=>Rd w X [] v (.elem ((U.enc τ z).drop off))
 | .oel i c τ q z off=>(c<=s.k/\v.oneCell'=true)/\∃e t,s.o[i]? =some e/\β[i]? =some t/\(e.cv=c->∃d L b,e.ob= .tree τ d L/\0<=q/\L[q.toNat]? =some z/\t.b=some b/\v= .pointer (some ⟨b,q.toNat*U.K τ+off,none⟩))
 | .oin i c τ q z j τ' l q' z' off=>(c<=s.k/\v.oneCell'=true)/\∃e t,s.o[i]? =some e/\β[i]? =some t/\(e.cv=c->∃L xs v0 b n' c',e.ob= .tree τ true L/\0<=q/\L[q.toNat]? =some z/\(C.cel τ z)[j]? =some (.sl τ' l)/\w.ownsRow 0 τ (U.K τ) t.val L.length xs/\xs[q.toNat*U.K τ+j]? =some v0/\v0= .slice (some ⟨b,0,none⟩) n' c'/\0<=q'/\l[q'.toNat]? =some z'/\v= .pointer (some ⟨b,q'.toNat*U.K τ'+off,none⟩))
 | .suf i c τ q l=>(c<=s.k/\v.oneCell'=true)/\∃e t,s.o[i]? =some e/\β[i]? =some t/\(e.cv=c->∃d,e.ob= .tree τ d l/\0<=q/\q.toNat<=l.length/\v=aAf (U.K τ) t q.toNat l.length)
 | .und=>v=undef
 | .any=>True
def Ms (C:Cod U)(w:World)(X:Nat->Prop)(β:List Tr)(s:Mm U)(vs:List Value)(cs:List (Lf U)):Prop:=
 vs.length=cs.length/\∀(i:Nat) (v:Value) (c:Lf U),vs[i]? =some v->cs[i]? =some c->c.mean C w X β s v
def Mp (C:Cod U)(w:World)(X:Nat->Prop)(β:List Tr)(s:Mm U)(v:Value):Bool×List (Lf U)->Prop
 |(false,cs)=>∃c,cs=[c]/\c.mean C w X β s v
 |(true,cs)=>∃vs:List Value,v= .agg vs.toArray/\Ms C w X β s vs cs
def Sv.mean (C:Cod U)(w:World)(X:Nat->Prop)(β:List Tr)(s:Mm U)(v:Value):Sv U->Prop
 | .l x=>x.mean C w X β s v
 | .a cs=>∃vs:List Value,v= .agg vs.toArray/\Ms C w X β s vs cs
 | .t xs=>∃vs:List Value,v= .tuple vs.toArray/\vs.length=xs.length/\∀(i:Nat) (v:Value) (x:Bool×List (Lf U)),vs[i]? =some v->xs[i]? =some x->Mp C w X β s v x
def Lf.bd (N M K:Nat):Lf U->Prop
 | .own i r=>i<N/\r<=K
 | .bor i c _ _=>i<N/\c<=K
 | .inn i c _ _ _ _ _ _=>i<N/\c<=K
 | .box i _=>i<N
 | .oel i c _ _ _ _=>i<N/\c<=K
 | .oin i c _ _ _ _ _ _ _ _ _=>i<N/\c<=K
 | .suf i c _ _ _=>i<N/\c<=K
 | .nat a=>a<M
 | .lt a _=>a<M
 |_=>True
def Sv.bd (N M K:Nat):Sv U->Prop
 | .l x=>x.bd N M K
 | .a cs=>∀c∈cs,c.bd N M K
 | .t xs=>∀x∈xs,∀c∈x.2,c.bd N M K
structure Evo (w w':World) (X X':Nat->Prop) (β β':List Tr) (s s':Mm U) (N M K:Nat):Prop where
 sz:w.heap.size<=w'.heap.size
 hX:∀b,b<w.heap.size->X' b->X b
 hc:∀(p:Addr) (u:Value),¬X p.block->w.cell? p=some u->w'.cell? p=some u
 hk:K<=s'.k
 hn:∀(a i:Nat) (f:Bool),a<M->s.ns[a]? =some (i,f)->∃f',s'.ns[a]? =some (i,f')
 ho:∀(i:Nat) (e:EO U) (t:Tr),i<N->s.o[i]? =some e->β[i]? =some t->∃e' t',s'.o[i]? =some e'/\β'[i]? =some t'/\(e'.rv<=K->e'.rv=e.rv/\t'.val=t.val)/\
  (e'.cv<=K->e'.cv=e.cv/\e'.ob=e.ob/\t'=t/\∀b∈t.all,w'.heap[b]? =w.heap[b]?)/\(e'.ob.aAX=true->e.ob.aAX=true/\t'.b=t.b)
section
variable {w w':World} {X X':Nat->Prop} {β β':List Tr} {s s':Mm U} {N M K:Nat}
def lt_of_some {α:Type}{l:List α}{i:Nat}{x:α}(h:l[i]? =some x):i<l.length:=(aE.1 h).1
def Lf.aBC {v:Value}{x:Lf U}(hm:x.mean C w X β s v):x.bd s.o.length s.ns.length s.k:=by
 cases x with
 |own i r=>obtain⟨h1,e,t,h2,_⟩:=hm;exact⟨lt_of_some h2,h1.1⟩
 |bor i c τ l=>obtain⟨h1,e,t,h2,_⟩:=hm;exact⟨lt_of_some h2,h1.1⟩
 |inn i c τ q z j τ' l=>obtain⟨h1,e,t,h2,_⟩:=hm;exact⟨lt_of_some h2,h1.1⟩
 |oel i c τ q z off=>obtain⟨h1,e,t,h2,_⟩:=hm;exact⟨lt_of_some h2,h1.1⟩
 |oin i c τ q z j τ' l q' z' off=>obtain⟨h1,e,t,h2,_⟩:=hm;exact⟨lt_of_some h2,h1.1⟩
 |suf i c τ q l=>obtain⟨h1,e,t,h2,_⟩:=hm;exact⟨lt_of_some h2,h1.1⟩
 |box i off=>obtain⟨_,e,t,h2,_⟩:=hm;exact lt_of_some h2
 |nat a=>obtain⟨i,f,h2,_⟩:=hm;exact lt_of_some h2
 |lt a m=>obtain⟨i,f,h2,_⟩:=hm;exact lt_of_some h2
 |_=>trivial
def Ms.bd {vs:List Value}{cs:List (Lf U)}(hm:Ms C w X β s vs cs):∀c∈cs,c.bd s.o.length s.ns.length s.k:=λc hc=>by
 obtain⟨i,hi⟩:=cV.1 hc
 have hl:i<vs.length:=by rw[hm.1];exact lt_of_some hi
 exact Lf.aBC (hm.2 i _ c (ac hl) hi)
def Sv.aBC {v:Value}{x:Sv U}(hm:x.mean C w X β s v):x.bd s.o.length s.ns.length s.k:=by
 cases x with
 |l x=>exact Lf.aBC hm
 |a cs=>obtain⟨vs,_,h⟩:=hm;exact h.bd
 |t xs=>
  obtain⟨vs,_,h2,h3⟩:=hm
  intro x hx c hc
  obtain⟨i,hi⟩:=cV.1 hx
  have hl:i<vs.length:=by rw[h2];exact lt_of_some hi
  have:=h3 i _ x (ac hl) hi
  obtain⟨b,cs⟩:=x
  cases b with
  |false=>obtain⟨c',rfl,h⟩:=this;simp at hc;subst hc;exact Lf.aBC h
  |true=>obtain⟨vs,_,h⟩:=this;exact h.bd c hc
def Lf.aAY (h:Evo w w' X X' β β' s s' N M K){v:Value}{x:Lf U}(hb:x.bd N M K)(hm:x.mean C w X β s v):x.mean C w' X' β' s' v:=by
 cases x with
 |int=>exact hm
 |bool=>exact hm
 |str=>exact hm
 |nil=>exact hm
 |nat a=>obtain⟨i,f,h1,h2⟩:=hm;obtain⟨f',h3⟩:=h.hn a i f hb h1;exact⟨i,f',h3,h2⟩
 |lt a m=>obtain⟨i,f,h1,h2⟩:=hm;obtain⟨f',h3⟩:=h.hn a i f hb h1;exact⟨i,f',h3,h2⟩
 |und=>exact hm
 |any=>trivial
 |sl τ l=>exact Rd.conv hm h.sz h.hX h.hc (λ_ _ h=>h)
 |ptr τ z off=>exact Rd.conv hm h.sz h.hX h.hc (λ_ _ h=>h)
 |own i r=>
  obtain⟨h1,e,t,h2,h3,h4⟩:=hm
  obtain⟨e',t',g1,g2,g3,_⟩:=h.ho i e t hb.1 h2 h3
  refine⟨⟨bq hb.2 h.hk,h1.2⟩,e',t',g1,g2,λhr=> ?_⟩
  obtain⟨q1,q2⟩:=g3 (hr▸hb.2)
  rw[q2];exact h4 (q1.symm.trans hr)
 |bor i c τ l=>
  obtain⟨h1,e,t,h2,h3,h4⟩:=hm
  obtain⟨e',t',g1,g2,_,g3,_⟩:=h.ho i e t hb.1 h2 h3
  refine⟨⟨bq hb.2 h.hk,h1.2⟩,e',t',g1,g2,λhr=> ?_⟩
  obtain⟨q1,_,q3,q4⟩:=g3 (hr▸hb.2)
  subst q3
  refine(h4 (q1.symm.trans hr)).conv h.sz (λb hb ⟨k1,k2⟩=>⟨h.hX b hb k1,k2⟩) (λp u hp hc=> ?_) (λ_ _ h=>h)
  by_cases hx:X p.block
  ·have:p.block∈t'.all:=Classical.byContradiction λhn=>hp ⟨hx,hn⟩
   rw[World.cell?_of_block (q4 _ this)];exact hc
  ·exact h.hc p u hx hc
 |inn i c τ q z j τ' l=>
  obtain⟨h1,e,t,h2,h3,h4⟩:=hm
  obtain⟨e',t',g1,g2,_,g3,_⟩:=h.ho i e t hb.1 h2 h3
  refine⟨⟨bq hb.2 h.hk,h1.2⟩,e',t',g1,g2,λhr=> ?_⟩
  obtain⟨q1,q2,q3,q4⟩:=g3 (hr▸hb.2)
  subst q3
  obtain⟨d,L,xs,a1,a2,a3,a4,a5,a6⟩:=h4 (q1.symm.trans hr)
  exact⟨d,L,xs,q2.trans a1,a2,a3,a4,mG a5 (λb hb=>q4 b (Tr.root hb)),a6⟩
 |box i off=>
  obtain⟨h1,e,t,h2,h3,h4⟩:=hm
  obtain⟨e',t',g1,g2,_,_,g3⟩:=h.ho i e t hb h2 h3
  refine⟨h1,e',t',g1,g2,λhr=> ?_⟩
  obtain⟨q1,q2⟩:=g3 hr
  rw[q2];exact h4 q1
 |oel i c τ q z off=>
  obtain⟨h1,e,t,h2,h3,h4⟩:=hm
  obtain⟨e',t',g1,g2,_,g3,_⟩:=h.ho i e t hb.1 h2 h3
  refine⟨⟨bq hb.2 h.hk,h1.2⟩,e',t',g1,g2,λhr=> ?_⟩
  obtain⟨q1,q2,q3,q4⟩:=g3 (hr▸hb.2)
  subst q3
  obtain⟨d,L,b,a1,a2⟩:=h4 (q1.symm.trans hr)
  exact⟨d,L,b,q2.trans a1,a2⟩
 |suf i c τ q l=>
  obtain⟨h1,e,t,h2,h3,h4⟩:=hm
  obtain⟨e',t',g1,g2,_,g3,_⟩:=h.ho i e t hb.1 h2 h3
  refine⟨⟨bq hb.2 h.hk,h1.2⟩,e',t',g1,g2,λhr=> ?_⟩
  obtain⟨q1,q2,q3,q4⟩:=g3 (hr▸hb.2)
  subst q3
  obtain⟨d,a1,a2⟩:=h4 (q1.symm.trans hr)
  exact⟨d,q2.trans a1,a2⟩
 |oin i c τ q z j τ' l q' z' off=>
  obtain⟨h1,e,t,h2,h3,h4⟩:=hm
  obtain⟨e',t',g1,g2,_,g3,_⟩:=h.ho i e t hb.1 h2 h3
  refine⟨⟨bq hb.2 h.hk,h1.2⟩,e',t',g1,g2,λhr=> ?_⟩
  obtain⟨q1,q2,q3,q4⟩:=g3 (hr▸hb.2)
  subst q3
  obtain⟨L,xs,v0,b,n',c',a1,a2,a3,a4,a5,a6⟩:=h4 (q1.symm.trans hr)
  exact⟨L,xs,v0,b,n',c',q2.trans a1,a2,a3,a4,mG a5 (λb hb=>q4 b (Tr.root hb)),a6⟩
def Ms.evo (h:Evo w w' X X' β β' s s' N M K){vs:List Value}{cs:List (Lf U)}(hb:∀c∈cs,c.bd N M K)(hm:Ms C w X β s vs cs):Ms C w' X' β' s' vs cs:=
 ⟨hm.1,λi v c h1 h2=>Lf.aAY h (hb c (az h2)) (hm.2 i v c h1 h2)⟩
def Mp.evo (h:Evo w w' X X' β β' s s' N M K){v:Value}{x:Bool×List (Lf U)}(hb:∀c∈x.2,c.bd N M K)(hm:Mp C w X β s v x):Mp C w' X' β' s' v x:=by
 obtain⟨b,cs⟩:=x
 cases b with
 |false=>obtain⟨c,rfl,h2⟩:=hm;exact⟨c,rfl,Lf.aAY h (hb c (by simp)) h2⟩
 |true=>obtain⟨vs,h1,h2⟩:=hm;exact⟨vs,h1,h2.evo h hb⟩
def Sv.aAY (h:Evo w w' X X' β β' s s' N M K){v:Value}{x:Sv U}(hb:x.bd N M K)(hm:x.mean C w X β s v):x.mean C w' X' β' s' v:=by
 cases x with
 |l x=>exact Lf.aAY h hb hm
 |a cs=>obtain⟨vs,h1,h2⟩:=hm;exact⟨vs,h1,h2.evo h hb⟩
 |t xs=>obtain⟨vs,h1,h2,h3⟩:=hm;exact⟨vs,h1,h2,λi v x a b=>(h3 i v x a b).evo h (hb x (az b))⟩
def Sv.aAU (h:Evo w w' X X' β β' s s' s.o.length s.ns.length s.k){v:Value}{x:Sv U}(hm:x.mean C w X β s v):x.mean C w' X' β' s' v:=Sv.aAY h (Sv.aBC hm) hm
def Lf.aAU (h:Evo w w' X X' β β' s s' s.o.length s.ns.length s.k){v:Value}{x:Lf U}(hm:x.mean C w X β s v):x.mean C w' X' β' s' v:=Lf.aAY h (Lf.aBC hm) hm
def Ms.go (h:Evo w w' X X' β β' s s' s.o.length s.ns.length s.k){vs:List Value}{cs:List (Lf U)}(hm:Ms C w X β s vs cs):Ms C w' X' β' s' vs cs:=Ms.evo h hm.bd hm
end
structure Bel (Y:Nat->Prop) (w w':World):Prop where
 os:w'.os=w.os
 tape:w'.tape=w.tape
 output:w'.output=w.output
 size:w.heap.size<=w'.heap.size
 block:∀b,b<w.heap.size->¬Y b->w'.heap[b]? =w.heap[b]?
def Bel.refl {Y:Nat->Prop}(w:World):Bel Y w w:=⟨rfl,rfl,rfl,aj _,λ_ _ _=>rfl⟩
def Bel.trans {Y:Nat->Prop}{a b c:World}(h:Bel Y a b)(k:Bel Y b c):Bel Y a c:=
 ⟨k.os.trans h.os,k.tape.trans h.tape,k.output.trans h.output,bq h.size k.size,λi hi hy=>(k.block i (cf hi h.size) hy).trans (h.block i hi hy)⟩
def Bel.aBN {w w':World}(h:Ext w w'){Y:Nat->Prop}:Bel Y w w':=⟨h.os,h.tape,h.output,h.size,λb hb _=>h.block b hb⟩
def Bel.ext {w w':World}{Y:Nat->Prop}(h:Bel Y w w')(hy:∀b,¬Y b):Ext w w':=⟨h.os,h.tape,h.output,h.size,λb hb=>h.block b hb (hy b)⟩
structure Env (U:Uni) (g:GI) where
 X0:Nat->Prop
 Y0:Nat->Prop
 w0:World
 /--Blocks that were made ahead of their step:nobody touches them. -/
 prm:List (Nat×Obj)
 /--Moments to which one looks back:as long as nothing has turned that was there,all of it stays. -/
 fr:List (World×Nat×Nat)
 h0:∀b,X0 b->b<w0.heap.size\/∃x∈prm,x.1=b
 hY:∀b,Y0 b->b<w0.heap.size
 hXY:∀b,X0 b->¬Y0 b
 hg:∀w,Bel Y0 w0 w->g.G w
 pin:List (Sv U×Value)
variable {g:GI}
def Env.X (E:Env U g)(β:List Tr)(b:Nat):Prop:=E.X0 b\/E.Y0 b\/∃t∈β,b∈t.all
def Ob.ok (C:Cod U)(w:World)(X:Nat->Prop)(β:List Tr)(s:Mm U)(t:Tr):Ob U->Prop
 | .dead=>True
 | .box T cs us=>cs.length=us.length/\∃b vs,t.b=some b/\t.bs=[]/\w.heap[b]? =some (.cells vs.toArray T (0,0))/\Ms C w X β s vs cs
 | .tree τ d l=>0<U.K τ/\∃xs,w.ownsRow 0 τ (U.K τ) t.val l.length xs/\OwL C w X d xs (l.map (C.cel τ)).flatten t.bs
structure Hp (C:Cod U) (E:Env U g) (s:Mm U) (β:List Tr) (w:World):Prop where
 ext:Bel E.Y0 E.w0 w
 len:β.length=s.o.length
 vers:∀(i:Nat) (e:EO U),s.o[i]? =some e->e.rv<=s.k/\e.cv<=s.k
 cnt:∀(a i:Nat),s.ns[a]? =some (i,true)->(i:Int)+1<=9223372036854775807
 new:∀(i:Nat) (t:Tr) (b:Nat),β[i]? =some t->b∈t.all->(E.w0.heap.size<=b\/E.Y0 b)/\b<w.heap.size
 dist:∀(i j:Nat) (t u:Tr) (b:Nat),i≠j->β[i]? =some t->β[j]? =some u->b∈t.all->b∉u.all
 nd:∀(i:Nat) (t:Tr),β[i]? =some t->t.all.Nodup
 ok:∀(i:Nat) (t:Tr) (e:EO U),β[i]? =some t->s.o[i]? =some e->e.ob.ok C w (E.X β) β s t
 pin:∀x∈E.pin,x.1.mean C w (E.X β) β s x.2
 prm:∀x∈E.prm,E.w0.heap.size<=x.1/\w.heap[x.1]? =some x.2/\(∀f∈E.fr,f.1.heap.size<=x.1)/\∀(i:Nat) (t:Tr),β[i]? =some t->x.1∉t.all
 fr:∀f∈E.fr,f.2.1<=s.o.length/\f.2.2<=s.k/\f.1.heap.size<=w.heap.size/\((∃(j:Nat) (e:EO U),j<f.2.1/\s.o[j]? =some e/\f.2.2<e.cv)\/(Ext f.1 w/\∀(i:Nat) (t:Tr) (b:Nat),f.2.1<=i->β[i]? =some t->b∈t.all->f.1.heap.size<=b))
section
variable {E:Env U g} {s s':Mm U} {β β':List Tr} {w w':World}
def Hp.gw (H:Hp C E s β w):g.G w:=E.hg w H.ext
def Hp.aCB (H:Hp C E s β w)(b:Nat)(h:E.X β b):b<w.heap.size:=by
 rcases h with h|h|⟨t,ht,hb⟩
 ·rcases E.h0 b h with h|⟨x,hx,rfl⟩
  ·exact cf h H.ext.size
  ·exact(bv.1 (H.prm x hx).2.1).1
 ·exact cf (E.hY b h) H.ext.size
 ·obtain⟨i,hi⟩:=cV.1 ht
  exact(H.new i t b hi hb).2
def Hp.tr (H:Hp C E s β w){i:Nat}{e:EO U}(h:s.o[i]? =some e):∃t,β[i]? =some t:=
 ⟨_,ac (by rw[H.len];exact(aE.1 h).1)⟩
def Ob.aBF {X X':Nat->Prop}(h:Evo w w' X X' β β' s s' s.o.length s.ns.length s.k){t:Tr}{x:Ob U}(hok:x.ok C w X β s t)(hh:∀b∈t.all,w'.heap[b]? =w.heap[b]?):x.ok C w' X' β' s' t:=by
 cases x with
 |dead=>trivial
 |box T cs us=>
  obtain⟨h0,b,vs,h1,h2,h3,h4⟩:=hok
  exact⟨h0,b,vs,h1,h2,by rw[hh b (Tr.root h1)];exact h3,h4.go h⟩
 |tree τ d l=>
  obtain⟨h1,xs,h2,h3⟩:=hok
  exact⟨h1,xs,mG h2 (λb hb=>hh b (Tr.root hb)),h3.conv h.sz h.hX h.hc (λb hb=>hh b (by simp[Tr.all,hb]))⟩
def Hp.step (H:Hp C E s β w)(I D:Nat->Prop)(hk:s.k<=s'.k)(hn:∀(a i:Nat) (f:Bool),s.ns[a]? =some (i,f)->∃f',s'.ns[a]? =some (i,f'))(hcnt:∀(a i:Nat),s'.ns[a]? =some (i,true)->(i:Int)+1<=9223372036854775807)(hlen:β'.length=s'.o.length)(hge:s.o.length<=s'.o.length)(hsz:w.heap.size<=w'.heap.size)(hos:w'.os=w.os)(htape:w'.tape=w.tape)(hout:w'.output=w.output)
  (hheap:∀b,b<w.heap.size->¬D b->w'.heap[b]? =w.heap[b]?) (hD:∀b,D b->∃i t,I i/\β[i]? =some t/\b∈t.all)
  (hsame:∀i,¬I i->i<s.o.length->s'.o[i]? =s.o[i]? /\β'[i]? =β[i]?)
  (hnew:∀(j:Nat) (t:Tr) (b:Nat),(I j\/s.o.length<=j)->β'[j]? =some t->b∈t.all->b<w'.heap.size/\(w.heap.size<=b\/∃i u,I i/\β[i]? =some u/\b∈u.all))
  (hdist:∀(i j:Nat) (t u:Tr) (b:Nat),(I i\/s.o.length<=i)->(I j\/s.o.length<=j)->i≠j->β'[i]? =some t->β'[j]? =some u->b∈t.all->b∉u.all)
  (hnd:∀(j:Nat) (t:Tr),(I j\/s.o.length<=j)->β'[j]? =some t->t.all.Nodup)
  (hver:∀(j:Nat) (e:EO U),(I j\/s.o.length<=j)->s'.o[j]? =some e->e.rv<=s'.k/\e.cv<=s'.k)
  (hI:∀(i:Nat) (e e':EO U) (t t':Tr),I i->s.o[i]? =some e->s'.o[i]? =some e'->β[i]? =some t->β'[i]? =some t'->(e'.rv<=s.k->e'.rv=e.rv/\t'.val=t.val)/\s.k<e'.cv/\(e'.ob.aAX=true->e.ob.aAX=true/\t'.b=t.b))
  (hok:Evo w w' (E.X β) (E.X β') β β' s s' s.o.length s.ns.length s.k->∀(j:Nat) (t:Tr) (e:EO U),(I j\/s.o.length<=j)->β'[j]? =some t->s'.o[j]? =some e->e.ob.ok C w' (E.X β') β' s' t):
  Hp C E s' β' w'/\Evo w w' (E.X β) (E.X β') β β' s s' s.o.length s.ns.length s.k:=by
 have hcase:∀j,(I j\/s.o.length<=j)\/(¬I j/\j<s.o.length):=λj=>by
  by_cases h:I j
  ·exact .inl (.inl h)
  ·by_cases h2:s.o.length<=j
   ·exact .inl (.inr h2)
   ·exact .inr ⟨h,by omega⟩
 have hX:∀b,b<w.heap.size->E.X β' b->E.X β b:=by
  rintro b hb (h|h|⟨t,ht,htb⟩)
  ·exact .inl h
  ·exact .inr (.inl h)
  ·obtain⟨j,hj⟩:=cV.1 ht
   rcases hcase j with hc|⟨hn,hl⟩
   ·rcases(hnew j t b hc hj htb).2 with h|⟨i,u,_,hu,hub⟩
    ·omega
    ·exact .inr (.inr ⟨u,az hu,hub⟩)
   ·rw[(hsame j hn hl).2] at hj
    exact .inr (.inr ⟨t,az hj,htb⟩)
 have hDX:∀b,D b->E.X β b:=λb hb=>by
  obtain⟨i,t,_,h2,h3⟩:=hD b hb
  exact .inr (.inr ⟨t,az h2,h3⟩)
 have hkeep:∀(i:Nat) (t:Tr),¬I i->β[i]? =some t->∀b∈t.all,w'.heap[b]? =w.heap[b]? :=λi t hi ht b hb=>
  hheap b (H.new i t b ht hb).2 (λhd=>by
   obtain⟨j,u,hj,hu,hub⟩:=hD b hd
   exact H.dist i j t u b (λe=>hi (e▸hj)) ht hu hb hub)
 have hevo:Evo w w' (E.X β) (E.X β') β β' s s' s.o.length s.ns.length s.k:=by
  refine⟨hsz,hX,λp u hp hc=> ?_,hk,λa i f _ h=>hn a i f h,λi e t _ he ht=> ?_⟩
  ·have hlt:=World.block_lt_of_cell? w p hc
   rw[World.cell?_of_block (hheap p.block hlt (λhd=>hp (hDX _ hd)))];exact hc
  ·have hil:i<s.o.length:=(aE.1 he).1
   by_cases hi:I i
   ·have h1:s'.o[i]? =some (s'.o[i]'(by omega)):=ac _
    have h2:β'[i]? =some (β'[i]'(by omega)):=ac _
    obtain⟨q1,q2,q3⟩:=hI i e _ t _ hi he h1 ht h2
    exact⟨_,_,h1,h2,q1,λhc=>absurd hc (by omega),q3⟩
   ·obtain⟨h1,h2⟩:=hsame i hi hil
    exact⟨e,t,h1.trans he,h2.trans ht,λ_=>⟨rfl,rfl⟩,λ_=>⟨rfl,rfl,rfl,hkeep i t hi ht⟩,λh=>⟨h,rfl⟩⟩
 refine⟨⟨?_,hlen,?_,hcnt,?_,?_,?_,?_,λx hx=>Sv.aAU hevo (H.pin x hx),λx hx=> ?_,λf hf=> ?_⟩,hevo⟩
 ·refine⟨hos.trans H.ext.os,htape.trans H.ext.tape,hout.trans H.ext.output,bq H.ext.size hsz,λb hb hy=> ?_⟩
  rw[hheap b (cf hb H.ext.size) (λhd=>by
   obtain⟨i,t,_,h2,h3⟩:=hD b hd
   rcases(H.new i t b h2 h3).1 with h|h
   ·omega
   ·exact hy h)]
  exact H.ext.block b hb hy
 ·intro j e he
  rcases hcase j with hc|⟨hn,hl⟩
  ·exact hver j e hc he
  ·rw[(hsame j hn hl).1] at he
   have:=H.vers j e he
   omega
 ·intro j t b ht hb
  rcases hcase j with hc|⟨hn,hl⟩
  ·obtain⟨h1,h2⟩:=hnew j t b hc ht hb
   refine⟨?_,h1⟩
   rcases h2 with h|⟨i,u,_,hu,hub⟩
   ·have:=H.ext.size;exact .inl (by omega)
   ·exact(H.new i u b hu hub).1
  ·rw[(hsame j hn hl).2] at ht
   have:=H.new j t b ht hb
   exact⟨this.1,by omega⟩
 ·intro i j t u b hij ht hu hb hub
  have aux:∀(i j:Nat) (t u:Tr),i≠j->(I i\/s.o.length<=i)->(¬I j/\j<s.o.length)->β'[i]? =some t->β[j]? =some u->b∈t.all->b∈u.all->False:=by
   intro i j t u hij hi hj ht hu hb hub
   rcases(hnew i t b hi ht hb).2 with h|⟨q,x,hq,hx,hxb⟩
   ·have:=(H.new j u b hu hub).2;omega
   ·exact H.dist q j x u b (λe=>hj.1 (e▸hq)) hx hu hxb hub
  rcases hcase i with hi|hi<;>rcases hcase j with hj|hj
  ·exact hdist i j t u b hi hj hij ht hu hb hub
  ·rw[(hsame j hj.1 hj.2).2] at hu;exact aux i j t u hij hi hj ht hu hb hub
  ·rw[(hsame i hi.1 hi.2).2] at ht;exact aux j i u t (Ne.symm hij) hj hi hu ht hub hb
  ·rw[(hsame i hi.1 hi.2).2] at ht
   rw[(hsame j hj.1 hj.2).2] at hu
   exact H.dist i j t u b hij ht hu hb hub
 ·intro j t ht
  rcases hcase j with hc|⟨hn,hl⟩
  ·exact hnd j t hc ht
  ·rw[(hsame j hn hl).2] at ht;exact H.nd j t ht
 ·intro j t e ht he
  rcases hcase j with hc|⟨hn,hl⟩
  ·exact hok hevo j t e hc ht he
  ·obtain⟨h1,h2⟩:=hsame j hn hl
   rw[h1] at he;rw[h2] at ht
   exact Ob.aBF hevo (H.ok j t e ht he) (hkeep j t hn ht)
 ·obtain⟨h1,h2,h3,h4⟩:=H.prm x hx
  have hlt:x.1<w.heap.size:=(bv.1 h2).1
  refine⟨h1,(hheap x.1 hlt λhd=> ?_).trans h2,h3,λj t ht hb=> ?_⟩
  ·obtain⟨i,u,_,hu,hub⟩:=hD _ hd
   exact h4 i u hu hub
  ·rcases hcase j with hc|⟨hn,hl⟩
   ·rcases(hnew j t _ hc ht hb).2 with h|⟨i,u,_,hu,hub⟩
    ·omega
    ·exact h4 i u hu hub
   ·rw[(hsame j hn hl).2] at ht;exact h4 j t ht hb
 ·obtain⟨h1,h2,h0,h3⟩:=H.fr f hf
  refine⟨bq h1 hge,bq h2 hk,bq h0 hsz,?_⟩
  have turned:∀i,I i->i<f.2.1->∃(j:Nat) (e:EO U),j<f.2.1/\s'.o[j]? =some e/\f.2.2<e.cv:=λi hi hl=>by
   have hil:i<s.o.length:=cf hl h1
   have g1:s.o[i]? =some s.o[i]:=ac hil
   have g2:s'.o[i]? =some (s'.o[i]'(by omega)):=ac _
   obtain⟨t,g3⟩:=H.tr g1
   have g4:β'[i]? =some (β'[i]'(by omega)):=ac _
   have:=(hI i _ _ t _ hi g1 g2 g3 g4).2.1
   exact⟨i,_,hl,g2,by omega⟩
  rcases h3 with⟨j,e,q1,q2,q3⟩|⟨q1,q2⟩
  ·by_cases hj:I j
   ·exact .inl (turned j hj q1)
   ·exact .inl ⟨j,e,q1,by rw[(hsame j hj (lt_of_some q2)).1];exact q2,q3⟩
  ·by_cases hex:∃i,I i/\i<f.2.1
   ·obtain⟨i,hi,hl⟩:=hex
    exact .inl (turned i hi hl)
   ·have hno:∀i,I i->f.2.1<=i:=λi hi=>Nat.le_of_not_lt λhl=>hex ⟨i,hi,hl⟩
    refine .inr ⟨⟨hos.trans q1.os,htape.trans q1.tape,hout.trans q1.output,bq q1.size hsz,λb hb=> ?_⟩,λj t b hj ht hb=> ?_⟩
    ·rw[hheap b (cf hb q1.size) (λhd=>by
      obtain⟨i,t,hi,ht,htb⟩:=hD b hd
      have:=q2 i t b (hno i hi) ht htb;omega)]
     exact q1.block b hb
    ·rcases hcase j with hc|⟨hn,hl⟩
     ·rcases(hnew j t b hc ht hb).2 with h|⟨i,u,hi,hu,hub⟩
      ·exact bq q1.size h
      ·exact q2 i u b (hno i hi) hu hub
     ·rw[(hsame j hn hl).2] at ht;exact q2 j t b hj ht hb
end
end Go.EV

namespace Go.EV
open Go.RowKit Go.VK
noncomputable section
def nth {α:Type}(l:List α):Nat->Option α:=List.rec (motive:=λ_=>Nat->Option α) (λ_=>none) (λx _ ih n=>Nat.rec (motive:=λ_=>Option α) (some x) (λm _=>ih m) n) l
def upd {α:Type}(l:List α):Nat->α->List α:=List.rec (motive:=λ_=>Nat->α->List α) (λ_ _=>[]) (λx t ih n y=>Nat.rec (motive:=λ_=>List α) (y::t) (λm _=>x::ih m y) n) l
def drp {α:Type}(l:List α):Nat->List α:=List.rec (motive:=λ_=>Nat->List α) (λ_=>[]) (λx t ih n=>Nat.rec (motive:=λ_=>List α) (x::t) (λm _=>ih m) n) l
def tk {α:Type}(l:List α):Nat->List α:=List.rec (motive:=λ_=>Nat->List α) (λ_=>[]) (λx _ ih n=>Nat.rec (motive:=λ_=>List α) [] (λm _=>x::ih m) n) l
def len {α:Type}(l:List α):Nat:=List.rec (motive:=λ_=>Nat) 0 (λ_ _ ih=>Nat.succ ih) l
def iE {α:Type}(l:List (Nat×α))(n:Nat):Option α:=List.rec (motive:=λ_=>Option α) none (λx _ ih=>cond (Nat.beq x.1 n) (some x.2) ih) l
inductive Kz where
 |int (k:IntKind)
 |bool
 |str
 |nil
def Kz.v:Kz->V
 | .int k=> .int k 0
 | .bool=> .bool false
 | .str=> .str ⟨#[]⟩
 | .nil=> .nil
inductive UT where
 |int (k:IntKind)
 |bool
 |str
 |sl (e ek eb:Nat)
 |st (fs:List (Nat×Nat×Nat))
structure TInfo where
 u:UT
 k:Nat
 z:List Kz
inductive Kd where
 |int (k:IntKind)
 |bool
 |str
 |sl (τ:Nat)
 |st (T:Nat)
variable {U:Uni}
def Kz.lf:Kz->Lf U
 | .int k=> .int k (0:Int)
 | .bool=> .bool false
 | .str=> .str (⟨#[]⟩:ByteArray)
 | .nil=> .nil
def Kd.ty (U:Uni):Kd->Type
 | .int _=>Int
 | .bool=>Bool
 | .str=>ByteArray
 | .sl τ=>List (U.El τ)
 | .st T=>U.El T
def qB (U:Uni):List Kd->Type
 |[]=>Unit
 |[k]=>k.ty U
 |k::k'::ks=>k.ty U×qB U (k'::ks)
structure Sum (U:Uni) where
 ar:List Kd
 rs:List Kd
 fr:Bool
 wt:Bool
 m:qB U ar->Option (qB U rs)
def slq (τ τ':Nat)(l:List (U.El τ')):Option (List (U.El τ)):=if h:τ'=τ then some (h▸l) else none
def okv (m:Mm U)(i c:Nat):Bool:=match nth m.o i with
 |some e=>Nat.beq e.cv c
 |none=>false
def rsv (ns:List (Nat×Bool)):Lf U->Lf U
 | .nat a=>match nth ns a with|some (i,_)=> .int .i64 (i:Int)|none=> .any
 | .lt a m=>match nth ns a with|some (i,_)=> .bool (decide ((i:Int)<m))|none=> .any
 |x=>x
def qA (m:Mm U):Lf U->Option (Lf U)
 | .int k n=>some (.int k n)
 | .bool b=>some (.bool b)
 | .str s=>some (.str s)
 | .sl τ l=>some (.sl τ l)
 | .nat a=>match nth m.ns a with|some (i,_)=>some (.int .i64 (i:Int))|none=>none
 | .lt a n=>match nth m.ns a with|some (i,_)=>some (.bool (decide ((i:Int)<n)))|none=>none
 | .own i r=>match nth m.o i with
  |some ⟨.tree τ _ l,rv,_⟩=>bif Nat.beq rv r then some (.sl τ l) else none
  |_=>none
 | .bor i c τ l=>bif okv m i c then some (.sl τ l) else none
 | .inn i c _ _ _ _ τ' l=>bif okv m i c then some (.sl τ' l) else none
 |_=>none
def rdn (m:Mm U)(kd:Kd):Lf U->Option (Lf U)
 | .nil=>match kd with| .sl τ=>some (.sl τ [])|_=>none
 |x=>qA m x
def rds (m:Mm U):List Kd->List (Lf U)->Option (List (Lf U))
 |[],[]=>some []
 |kd::ks,x::xs=>match rdn m kd x with
  |some y=>match rds m ks xs with
   |some ys=>some (y::ys)
   |none=>none
  |none=>none
 |_,_=>none
def aEi:(kd:Kd)->Lf U->Option (kd.ty U)
 | .int k, .int k' n=>if k'=k then some n else none
 | .bool, .bool b=>some b
 | .str, .str s=>some s
 | .sl τ, .sl τ' l=>slq τ τ' l
 |_,_=>none
def Cur (U:Uni)(β:Type):List Kd->Type
 |[]=>β
 |k::ks=>k.ty U->Cur U β ks
def kM {β:Type}:(ks:List Kd)->Cur U β ks->List (Lf U)->Option β
 |[],x,[]=>some x
 |k::ks,f,c::cs=>match aEi k c with
  |some a=>kM ks (f a) cs
  |none=>none
 |_,_,_=>none
structure Lay (U:Uni) where
 C:Cod U
 kd:Nat->List Kd
 bt:Nat
 be:Int->U.El bt
 bi:U.El bt->Int
 hb:∀x,C.cel bt x=[.int .u8 (bi x)]
 hbe:∀n,bi (be n)=n
def bAg (ns:List Int):ByteArray:=ns.foldl (λr n=>r.push (UInt8.ofNat n.toNat)) ByteArray.empty
variable (Y:Lay U)
def Kr (m:Mm U):(kd:Kd)->Sv U->Option (kd.ty U)
 | .st T, .a cs=>match rds m (Y.kd T) cs with
  |some ds=>Y.C.bld T ds
  |none=>none
 |kd, .l x=>match rdn m kd x with
  |some y=>aEi kd y
  |none=>none
 |_,_=>none
def lC (m:Mm U):(ks:List Kd)->List (Sv U)->Option (qB U ks)
 |[],[]=>some ()
 |[k],[x]=>Kr Y m k x
 |k::k'::ks,x::xs=>match Kr Y m k x with
  |some a=>match lC m (k'::ks) xs with
   |some b=>some (a,b)
   |none=>none
  |none=>none
 |_,_=>none
def bK2:(kd:Kd)->kd.ty U->Lf U
 | .int k,n=> .int k n
 | .bool,b=> .bool b
 | .str,s=> .str s
 | .sl τ,l=> .sl τ l
 | .st _,_=> .any
def w9:(kd:Kd)->kd.ty U->Bool×List (Lf U)
 | .st T,x=>(true,Y.C.cel T x)
 | .int k,n=>(false,[.int k n])
 | .bool,b=>(false,[.bool b])
 | .str,s=>(false,[.str s])
 | .sl τ,l=>(false,[.sl τ l])
def bW:(ks:List Kd)->qB U ks->List (Bool×List (Lf U))
 |[],_=>[]
 |[k],x=>[w9 Y k x]
 |k::k'::ks,x=>w9 Y k x.1::bW (k'::ks) x.2
def aV2:Bool×List (Lf U)->Sv U
 |(true,cs)=> .a cs
 |(false,[x])=> .l x
 |_=> .l .any
def uA:List (Bool×List (Lf U))->Sv U
 |[x]=>aV2 x
 |xs=> .t xs
def aSy (k:IntKind)(n:Int):Bool:=decide (k.min<=n)&&decide (n<=k.max)
def aSz:Value->Sv U
 | .int k n=>bif aSy k n then .l (.int k n) else .l .any
 | .bool b=> .l (.bool b)
 | .string s=>bif Nat.ble (len s.data.toList) 1000 then .l (.str s) else .l .any
 | .slice none 0 0=> .l .nil
 |_=> .l .any
def sG (s:St U):Operand->Sv U
 | .tmp n=>match nth s.t n with|some x=>x|none=> .l .any
 | .const v=>aSz v
 |_=> .l .any
def dS (s:St U)(x:Operand):Sv U:=match sG s x with
 | .l y=> .l (rsv s.m.ns y)
 |y=>y
variable (TI:List (Nat×TInfo))
def bG3 (b:BinOp)(k:IntKind)(m n:Int):Option (Lf U):=match b with
 | .add=>some (.int k (k.wrap (m+n)))
 | .sub=>some (.int k (k.wrap (m-n)))
 | .mul=>some (.int k (k.wrap (m*n)))
 | .lss=>some (.bool (decide (m<n)))
 | .leq=>some (.bool (decide (m<=n)))
 | .gtr=>some (.bool (decide (m>n)))
 | .geq=>some (.bool (decide (m>=n)))
 | .eql=>some (.bool (m==n))
 | .neq=>some (.bool (m !=n))
 | .and=>some (.int k (mF k m n))
 | .or=>some (.int k (orI k m n))
 | .xor=>some (.int k (aSx k m n))
 |_=>none
def bG4 (b:BinOp)(m n:ByteArray):Option (Lf U):=match b with
 | .eql=>some (.bool (m.toList==n.toList))
 | .neq=>some (.bool (!(m.toList==n.toList)))
 |_=>none
def eqC:Lf U->Lf U->Option Bool
 | .int k m, .int k' n=>if k=k' then some (m==n) else none
 | .bool a, .bool b=>some (a==b)
 | .str a, .str b=>some (a.toList==b.toList)
 |_,_=>none
def bO7:List (Lf U)->List (Lf U)->Option Bool
 |[],[]=>some true
 |[x],[y]=>eqC x y
 |x::xs,y::ys=>match eqC x y with
  |some b=>match bO7 xs ys with
   |some c=>some (b&&c)
   |none=>none
  |none=>none
 |_,_=>none
def eqQ:Nat->List (Nat×Nat×Nat)->List (Lf U)->List (Lf U)->Option Bool
 |_,[],[],[]=>some true
 |i,(off,ft,_)::fs,c::cs,d::ds=>bif Nat.beq off i then(match eqQ (Nat.succ i) fs cs ds with
  |some r=>(match iE TI ft,c,d with
   |some ⟨.int _,_,_⟩, .int k m, .int k' n=>if k=k' then some (m==n&&r) else none
   |some ⟨.bool,_,_⟩, .bool m, .bool n=>some (m==n&&r)
   |some ⟨.str,_,_⟩, .str m, .str n=>some (m.toList==n.toList&&r)
   |_,_,_=>none)
  |none=>none) else none
 |_,_,_,_=>none
def cut (i:TInfo)(cs:List (Lf U))(off:Nat):Option (Sv U):=match i.u with
 | .st _=>let ds:=tk (drp cs off) i.k
  bif Nat.beq (len ds) i.k then some (.a ds) else none
 |_=>match nth cs off with
  |some x=>some (.l x)
  |none=>none
def eqV (i:TInfo):Sv U->Sv U->Option Bool
 | .l (.int k m), .l (.int k' n)=>match i.u with
  | .int _=>if k=k' then some (m==n) else none
  |_=>none
 | .l (.bool m), .l (.bool n)=>match i.u with
  | .bool=>some (m==n)
  |_=>none
 | .l (.str m), .l (.str n)=>match i.u with
  | .str=>some (m.toList==n.toList)
  |_=>none
 | .a xs, .a ys=>match i.u with
  | .st (g::gs)=>eqQ TI 0 (g::gs) xs ys
  |_=>none
 |_,_=>none
def eqN:List (Nat×Nat×Nat)->List (Lf U)->List (Lf U)->Option Bool
 |[],_,_=>some true
 |(off,ft,_)::fs,cs,ds=>match iE TI ft with
  |some i=>match cut i cs off with
   |some x=>match cut i ds off with
    |some y=>match eqV TI i x y with
     |some a=>match eqN fs cs ds with
      |some r=>some (a&&r)
      |none=>none
     |none=>none
    |none=>none
   |none=>none
  |none=>none
def eqB (fs:List (Nat×Nat×Nat))(cs ds:List (Lf U)):Option Bool:=match eqQ TI 0 fs cs ds with
 |some r=>some r
 |none=>eqN TI fs cs ds
def bin (b:BinOp)(t:TypeId):Sv U->Sv U->Option (Lf U)
 | .l (.int k m), .l (.int k' n)=>if k=k' then bG3 b k m n else none
 | .l (.str m), .l (.str n)=>bG4 b m n
 | .l (.bool m), .l (.bool n)=>match iE TI t with
  |some ⟨.bool,_,_⟩=>match b with
   | .eql=>some (.bool (m==n))
   | .neq=>some (.bool (!(m==n)))
   |_=>none
  |_=>none
 | .a cs, .a ds=>match iE TI t with
  |some ⟨.st (f::fs),_,_⟩=>match eqB TI (f::fs) cs ds with
   |some r=>(match b with
    | .eql=>some (.bool r)
    | .neq=>some (.bool (!r))
    |_=>none)
   |none=>none
  |_=>none
 |_,_=>none
def aEj (i c τ:Nat)(q:Int)(z:U.El τ):Nat->List (Lf U)->List (Lf U)
 |_,[]=>[]
 |j, .sl τ' l::xs=> .inn i c τ q z j τ' l::aEj i c τ q z (Nat.succ j) xs
 |j,x::xs=>x::aEj i c τ q z (Nat.succ j) xs
def aEk (i c:Nat):List (Lf U)->List (Lf U)
 |[]=>[]
 | .sl τ l::xs=> .bor i c τ l::aEk i c xs
 |x::xs=>x::aEk i c xs
def fld (fs:List (Nat×Nat×Nat))(f:Nat):Option (Nat×Nat×Nat):=nth fs f
def rR (m:Mm U)(f:Nat):Lf U->Option (Lf U)
 | .box i off=>match nth m.o i with
  |some ⟨.box ..,_,_⟩=>some (.box i (off+f))
  |_=>none
 | .ptr τ z off=>some (.ptr τ z (off+f))
 | .oel i c τ q z off=>bif okv m i c then some (.oel i c τ q z (off+f)) else none
 |_=>none
def brA {α:Type}(q:Int)(F:Nat->Option α)(n:Nat):Option α:=Nat.rec (motive:=λ_=>Option α) none (λj ih=>bif decide (q=(j:Int)) then F j else ih) n
def load (s:St U)(i:TInfo):Lf U->Option (Sv U)
 | .box b off=>match nth s.m.o b with
  |some ⟨.box _ cs _,_,_⟩=>cut i cs off
  |_=>none
 | .ptr τ z off=>cut i (Y.C.cel τ z) off
 | .oel b c τ q z off=>bif okv s.m b c then cut i (aEj b c τ q z 0 (Y.C.cel τ z)) off else none
 | .oin b c _ _ _ _ τ' _ _ z' off=>bif okv s.m b c then cut i (aEk b c (Y.C.cel τ' z')) off else none
 |_=>none
def lenOf (m:Mm U):Lf U->Option (Lf U)
 | .str z=>some (.int .i64 (z.size:Int))
 | .nil=>some (.int .i64 (0:Int))
 |x=>match qA m x with
  |some (.sl _ l)=>some (.int .i64 (l.length:Int))
  |_=>none
def o5 {α:Type}(l:List α)(off:Nat)(vs:List α):List α:=List.rec (motive:=λ_=>Nat->List α) (λ_=>[]) (λx t ih n=>Nat.rec (motive:=λ_=>List α) (vs++drp (x::t) (len vs)) (λm _=>x::ih m) n) l off
def parts:Sv U->Option (List (Lf U))
 | .l x=>some [x]
 | .a cs=>some cs
 |_=>none
def bDf:Lf U->Bool
 | .und=>false
 | .any=>false
 |_=>true
def Bg:List (Lf U)->Bool
 |[]=>true
 |x::xs=>bDf x&&Bg xs
def aV3 (s:St U)(fs:List (Nat×Nat×Nat)):List (Nat×Operand)->List (Lf U)->Option (List (Lf U))
 |[],cs=>some cs
 |(f,x)::xs,cs=>match fld fs f,parts (sG s x) with
  |some (off,_,n),some ps=>bif Nat.beq (len ps) n&&Nat.ble (off+n) (len cs)&&Bg ps then aV3 s fs xs (o5 cs off ps) else none
  |_,_=>none
def pur (s:St U)(op:Op):Option (Sv U):=match op with
 | .move x=>some (sG s x)
 | .assign x=>some (sG s x)
 | .pick c x y=>match dS s c with
  | .l (.bool b)=>bif b then some (sG s x) else some (sG s y)
  |_=>none
 | .nilCheck x=>match dS s x with
  | .l (.box b off)=>match nth s.m.o b with
   |some ⟨.box ..,_,_⟩=>some (.l (.box b off))
   |_=>none
  |_=>none
 | .unOp u _ x=>match u,dS s x with
  | .not, .l (.bool b)=>some (.l (.bool (!b)))
  | .neg, .l (.int k n)=>some (.l (.int k (k.wrap (0-n))))
  |_,_=>none
 | .convert a b x=>match iE TI a,iE TI b,dS s x with
  |some ⟨.int _,_,_⟩,some ⟨.int j,_,_⟩, .l (.int _ n)=>some (.l (.int j (j.wrap n)))
  |_,_,_=>none
 | .fieldAddr t x f=>match iE TI t,dS s x with
  |some ⟨.st fs,_,_⟩, .l p=>match fld fs f with
   |some (off,_,_)=>match rR s.m off p with
    |some z=>some (.l z)
    |none=>none
   |none=>none
  |_,_=>none
 | .load t x=>match iE TI t,dS s x with
  |some i, .l p=>load Y s i p
  |_,_=>none
 | .field t x f=>match iE TI t,dS s x with
  |some ⟨.st fs,_,_⟩, .a cs=>match fld fs f with
   |some (off,ft,_)=>match iE TI ft with
    |some i=>cut i cs off
    |none=>none
   |none=>none
  |_,_=>none
 | .build t ps=>match iE TI t with
  |some ⟨.st fs,_,z⟩=>match aV3 s fs ps.toList (z.map Kz.lf) with
   |some cs=>some (.a cs)
   |none=>none
  |_=>none
 | .extract x i=>match dS s x with
  | .t xs=>match nth xs i with
   |some c=>some (aV2 c)
   |none=>none
  |_=>none
 | .call ⟨.builtin .len,xa,ats⟩=>match xa.toList,ats.toList with
  |[x],[t]=>match iE TI t,dS s x with
   |some ⟨.sl ..,_,_⟩, .l y=>match y with
    | .str _=>none
    |y=>match lenOf s.m y with
     |some z=>some (.l z)
     |none=>none
   |some ⟨.str,_,_⟩, .l (.str z)=>some (.l (.int .i64 (z.size:Int)))
   |_,_=>none
  |_,_=>none
 | .call ⟨.builtin .min,xa,_⟩=>match xa.toList with
  |[x,y]=>match dS s x,dS s y with
   | .l (.int k a), .l (.int k' b)=>if k=k' then some (.l (.int k (if b<a then b else a))) else none
   |_,_=>none
  |_=>none
 | .call ⟨.builtin .max,xa,_⟩=>match xa.toList with
  |[x,y]=>match dS s x,dS s y with
   | .l (.int k a), .l (.int k' b)=>if k=k' then some (.l (.int k (if b>a then b else a))) else none
   |_,_=>none
  |_=>none
 |_=>none
variable {α:Type}
def aL7 (f:(τ:Nat)->List (U.El τ)->List (U.El τ))(o:List (EO U)):Lf U->Option (Lf U)
 | .sl τ l=>some (.sl τ (f τ l))
 | .own i r=>match nth o i with
  |some ⟨.tree τ _ l,rv,cv⟩=>bif Nat.beq rv r then some (.bor i cv τ (f τ l)) else none
  |_=>none
 | .bor i c τ l=>some (.bor i c τ (f τ l))
 | .inn i c _ _ _ _ τ' l=>some (.bor i c τ' (f τ' l))
 |_=>none
def Fa (e k τ:Nat):Bool:=Nat.beq e τ&&Nat.beq (U.K τ) k
def uB:Sv U->Option Int
 | .l (.int _ n)=>some n
 |_=>none
def Qu (s:St U)(op:Op)(K:Sv U->Option α):Option α:=match op with
 | .binOp b t x y u=>match dS s x,dS s y with
  | .l (.int k m), .l (.int k' n)=>match b with
   | .lss=>if k=k' then(match sG s x with
    | .l (.nat a)=>K (.l (.lt a n))
    |_=>K (.l (.bool (decide (m<n))))) else none
   | .quo=>if k=k' then gd (n≠0) (K (.l (.int k (k.wrap (m.tdiv n))))) else none
   | .rem=>if k=k' then gd (n≠0) (K (.l (.int k (m.tmod n)))) else none
   | .shl=>gd (0<=n) (K (.l (.int k (p8 k m n))))
   | .shr=>gd (0<=n) (K (.l (.int k (Bf k m n))))
   |b=>if k=k' then(match bG3 b k m n with|some z=>K (.l z)|none=>none) else none
  | .l (.str m), .l (.str n)=>match b with
   | .add=>gd (m.size+n.size<=9223372036854775807) (K (.l (.str (m++n))))
   |b=>match bG4 b m n with|some z=>K (.l z)|none=>none
  |x,y=>match bin TI b t x y with
   |some z=>K (.l z)
   |none=>none
 | .indexAddr t x y=>match iE TI t,dS s x,dS s y with
  |some ⟨.sl e ek _,_,_⟩, .l p, .l (.int _ q)=>match p with
   | .sl τ l=>bif Fa (U:=U) e ek τ then bd (bA l q) λz=>K (.l (.ptr τ z 0)) else none
   | .own i r=>match nth s.m.o i with
    |some ⟨.tree τ _ l,rv,cv⟩=>bif Nat.beq rv r&&Fa (U:=U) e ek τ then bd (bA l q) λz=>K (.l (.oel i cv τ q z 0)) else none
    |_=>none
   | .inn i c τ q0 z j τ' l=>match nth s.m.o i with
    |some ⟨.tree _ d _,_,cv⟩=>bif d&&(Nat.beq cv c&&Fa (U:=U) e ek τ') then bd (bA l q) λz'=>K (.l (.oin i c τ q0 z j τ' l q z' 0)) else none
    |_=>none
   |_=>none
  |some ⟨.st [],k,_⟩, .l (.box b off), .l (.int _ q)=>brA q (λj=>match rR s.m j (.box b off) with
   |some z=>K (.l z)
   |none=>none) k
  |_,_,_=>none
 | .index t x y=>match iE TI t,dS s x,dS s y with
  |some ⟨.str,_,_⟩, .l (.str z), .l (.int _ q)=>bd (bA (bQ z) q) λc=>K (.l (.int .u8 c))
  |_,_,_=>none
 | .slice t x lo hi none=>match iE TI t,dS s x with
  |some ⟨.str,_,_⟩, .l (.str z)=>match lo,hi with
   |none,some h=>match uB (dS s h) with
    |some n=>gd (tZ z 0 n) (K (.l (.str (z.extract 0 n.toNat))))
    |none=>none
   |some l,none=>match uB (dS s l) with
    |some m=>gd (tZ z m z.size) (K (.l (.str (z.extract m.toNat z.size))))
    |none=>none
   |some l,some h=>match uB (dS s l),uB (dS s h) with
    |some m,some n=>gd (tZ z m n) (K (.l (.str (z.extract m.toNat n.toNat))))
    |_,_=>none
   |none,none=>none
  |some ⟨.sl e ek _,_,_⟩, .l p=>match qA s.m p with
   |some (.sl τ l)=>bif Fa (U:=U) e ek τ then(match lo,hi with
    |none,none=>match aL7 (λ_ l=>l) s.m.o p with
     |some p'=>K (.l p')
     |none=>none
    |none,some h=>match uB (dS s h),aL7 (λ_ l=>l.take (match uB (dS s h) with|some n=>n.toNat|none=>0)) s.m.o p with
     |some n,some p'=>gd (jH l n) (K (.l p'))
     |_,_=>none
    |some b,none=>match uB (dS s b),aL7 (λ_ l=>l.drop (match uB (dS s b) with|some n=>n.toNat|none=>0)) s.m.o p with
     |some n,some p'=>gd (jH l n) (K (.l p'))
     |_,_=>none
    |some b,some h=>match uB (dS s b),uB (dS s h),aL7 (λ_ l=>(l.take (match uB (dS s h) with|some n=>n.toNat|none=>0)).drop (match uB (dS s b) with|some n=>n.toNat|none=>0)) s.m.o p with
     |some n,some m,some p'=>gd (0<=n/\n<=m/\jH l m) (K (.l p'))
     |_,_,_=>none) else none
   |_=>none
  |_,_=>none
 | .convert ta tb x=>match iE TI ta,iE TI tb,dS s x with
  |some ⟨.sl e _ _,_,_⟩,some ⟨.str,_,_⟩, .l p=>match qA s.m p,iE TI e with
   |some (.sl τ l),some ⟨.int .u8,_,_⟩=>match slq Y.bt τ l with
    |some l=>bif Nat.beq e τ then gd (l.length<=68719476736) (K (.l (.str (bAg (l.map Y.bi))))) else none
    |none=>none
   |_,_=>none
  |_,_,_=>match pur Y TI s (.convert ta tb x) with
   |some x=>K x
   |none=>none
 |op=>match pur Y TI s op with
  |some x=>K x
  |none=>none
end
end Go.EV

namespace Go.EV
open Go.RowKit Go.VK
noncomputable section
variable {U:Uni} (Y:Lay U) (TI:List (Nat×TInfo)) (FZ:List (Nat×Sum U)) {α:Type}
def put (s:St U)(d:Option Nat)(x:Sv U):St U:=match d with
 |some n=>⟨upd s.t n x,s.m,s.fr⟩
 |none=>s
def psh (s:St U)(b:Ob U):St U:=⟨s.t,⟨s.m.o++[⟨b,s.m.k,s.m.k⟩],s.m.k,s.m.ns⟩,s.fr⟩
def trn (s:St U)(i:Nat)(b:Ob U)(rv:Nat):St U:=⟨s.t,⟨upd s.m.o i ⟨b,rv,Nat.succ s.m.k⟩,Nat.succ s.m.k,s.m.ns⟩,s.fr⟩
def Qg (k:Nat)(ids:List Nat)(o:List (EO U)):List (EO U):=List.rec (motive:=λ_=>List (EO U)) o (λi _ ih=>upd ih i ⟨.dead,k,k⟩) ids
def Fb (i:Nat)(l:List Nat):Bool:=List.rec (motive:=λ_=>Bool) false (λx _ ih=>cond (Nat.beq x i) true ih) l
def dist (l:List Nat):Bool:=List.rec (motive:=λ_=>Bool) true (λx xs ih=>cond (Fb x xs) false ih) l
def aS0 (m:Mm U)(kd:Kd):Lf U->Option (Lf U×List Nat×Bool)
 | .nil=>match kd with| .sl τ=>some (.sl τ [],[],true)|_=>none
 | .sl τ l=>some (.sl τ l,[],false)
 | .own i r=>match nth m.o i with
  |some ⟨.tree τ d l,rv,_⟩=>bif Nat.beq rv r then some (.sl τ l,[i],d) else none
  |_=>none
 | .bor .. =>none
 | .inn .. =>none
 | .suf i c τ q l=>match nth m.o i with
  |some ⟨.tree _ _ _,_,cv⟩=>bif Nat.beq cv c then some (.sl τ (l.drop q.toNat),[i],false) else none
  |_=>none
 |x=>match qA m x with
  |some y=>some (y,[],true)
  |none=>none
def aAg (m:Mm U):List Kd->List (Lf U)->Option (List (Lf U)×List Nat×Bool)
 |[],[]=>some ([],[],true)
 |kd::ks,x::xs=>match aS0 m kd x with
  |some (y,i,d)=>match aAg m ks xs with
   |some (ys,is,ds)=>some (y::ys,i++is,d&&ds)
   |none=>none
  |none=>none
 |_,_=>none
def bG6 (s:St U)(e:Nat)(x:Sv U):Option (U.El e×List Nat×Bool):=match parts x with
 |some cs=>match aAg s.m (Y.kd e) cs with
  |some (ds,ids,d)=>match Y.C.bld e ds with
   |some z=>some (z,ids,d)
   |none=>none
  |none=>none
 |none=>none
def Kt (s:St U)(e:Nat):Nat->List (Nat×Operand)->Option (List (U.El e)×List Nat×Bool)
 |_,[]=>some ([],[],true)
 |n,(i,x)::ps=>bif Nat.beq i n then(match bG6 Y s e (dS s x) with
  |some (z,ids,d)=>match Kt s e (Nat.succ n) ps with
   |some (zs,js,ds)=>some (z::zs,ids++js,d&&ds)
   |none=>none
  |none=>none) else none
def Kd.aDI:Kd->Bool
 | .sl _=>true
 |_=>false
def aG8 (l:List Kd):Bool:=List.rec (motive:=λ_=>Bool) false (λx _ ih=>cond x.aDI true ih) l
def aG9 (τ:Nat):Bool:=cond (aG8 (Y.kd τ)) false true
def flatK:Kd->Bool
 | .sl _=>false
 | .st T=>aG9 Y T
 |_=>true
def vW (l:List Kd):Bool:=List.rec (motive:=λ_=>Bool) true (λx _ ih=>cond (flatK Y x) ih false) l
def mR:Lf U->Bool
 | .own .. =>false
 | .bor .. =>false
 | .inn .. =>false
 |_=>true
def Fe:List (Lf U)->Bool
 |[]=>true
 |x::xs=>mR x&&Fe xs
def aHa:Sv U->Bool
 | .l x=>mR x
 | .a cs=>Fe cs
 | .t _=>false
def kV:List (Sv U)->Bool
 |[]=>true
 |x::xs=>aHa x&&kV xs
def lsV:Sv U->List (Lf U)
 | .l x=>[x]
 | .a cs=>cs
 | .t _=>[]
def bDg:List (Lf U)->Option Nat
 |[]=>none
 | .own i _::_=>some i
 |_::xs=>bDg xs
def aYn:List (Sv U)->Option Nat
 |[]=>none
 |x::xs=>match bDg (lsV x) with
  |some i=>some i
  |none=>aYn xs
def aHb (i:Nat):List (Lf U)->Bool
 |[]=>true
 | .own j _::xs=>Nat.beq i j&&aHb i xs
 |x::xs=>mR x&&aHb i xs
def aS1 (i:Nat):List (Sv U)->Bool
 |[]=>true
 |x::xs=>aHb i (lsV x)&&aS1 i xs
def aS2 (m:Mm U)(xs:List (Sv U)):Option (Nat×Nat):=match aYn xs with
 |some i=>bif aS1 i xs then(match nth m.o i with
  |some e=>some (i,e.cv)
  |none=>none) else none
 |none=>none
def aL9 (i c:Nat):List (Lf U)->List (Lf U)
 |[]=>[]
 | .sl τ l::xs=> .bor i c τ l::aL9 i c xs
 |x::xs=>x::aL9 i c xs
def Gx (i c:Nat):List (Bool×List (Lf U))->List (Bool×List (Lf U))
 |[]=>[]
 |(b,cs)::xs=>(b,aL9 i c cs)::Gx i c xs
def aHc:Operand->Operand->Bool
 | .tmp i, .tmp j=>Nat.beq i j
 | .const (.int k m), .const (.int k' n)=>decide (k=k')&&decide (m=n)
 |_,_=>false
def qC (k:Nat):Nat->List (Lf U)->List (Lf U)×List (EO U)
 |_,[]=>([],[])
 |n, .sl τ l::xs=>let r:=qC k (Nat.succ n) xs
  (.own n k::r.1,⟨.tree τ true l,k,k⟩::r.2)
 |n,x::xs=>let r:=qC k n xs
  (x::r.1,r.2)
def iY (k:Nat):Nat->List (Bool×List (Lf U))->List (Bool×List (Lf U))×List (EO U)
 |_,[]=>([],[])
 |n,(b,cs)::xs=>let r:=qC k n cs
  let q:=iY k (n+len r.2) xs
  ((b,r.1)::q.1,r.2++q.2)
def apD (s:St U)(e:Nat):Lf U->Option (Nat×Bool×List (U.El e)×St U)
 | .nil=>some (len s.m.o,true,[],psh s (.tree e true []))
 | .own i r=>match nth s.m.o i with
  |some ⟨.tree τ d l,rv,_⟩=>bif Nat.beq rv r then(match slq e τ l with
   |some l=>some (i,d,l,s)
   |none=>none) else none
  |_=>none
 |_=>none
def aDq (i:Nat):Lf U->Bool
 | .own j _=>cond (Nat.beq i j) false true
 | .bor j _ _ _=>cond (Nat.beq i j) false true
 | .inn j _ _ _ _ _ _ _=>cond (Nat.beq i j) false true
 |_=>true
def apS (m:Mm U)(e i:Nat)(py:Lf U):Option (List (U.El e)×List Nat×Bool):=match py with
 | .nil=>some ([],[],true)
 |py=>bif aG9 Y e then(match qA m py with
   |some (.sl τ l)=>match slq e τ l with
    |some l=>bif aDq i py then some (l,[],true) else none
    |none=>none
   |_=>none) else(match py with
   | .sl τ l=>match slq e τ l with
    |some l=>some (l,[],false)
    |none=>none
   | .own j r=>match nth m.o j with
    |some ⟨.tree τ d l,rv,_⟩=>bif Nat.beq rv r&&aDq i py then(match slq e τ l with
     |some l=>some (l,[j],d)
     |none=>none) else none
    |_=>none
   |_=>none)
def aHd:List Kd->Bool
 |[]=>true
 | .sl τ::ks=>Nat.ble 1 (U.K τ)&&aHd ks
 |_::ks=>aHd ks
def wr1 (m:Mm U):Lf U->Lf U->Option (List (Nat×EO U))
 | .own i r,y=>match nth m.o i,y with
  |some ⟨.tree τ' d _,rv,_⟩, .sl τ l=>bif d&&(Nat.beq rv r&&Nat.beq τ' τ) then some [(i,⟨.tree τ true l,rv,Nat.succ m.k⟩)] else none
  |_,_=>none
 | .inn i c τ q z j τ' _,y=>match nth m.o i,y with
  |some ⟨.tree τ1 d L,rv,cv⟩, .sl τ'' l=>bif d&&(Nat.beq cv c&&Nat.beq τ'' τ') then(match slq τ τ1 L with
   |some L=>match Y.C.bld τ (upd (Y.C.cel τ z) j (.sl τ'' l)) with
    |some z'=>some [(i,⟨.tree τ true (L.set q.toNat z'),rv,Nat.succ m.k⟩)]
    |none=>none
   |none=>none) else none
  |_,_=>none
 | .sl ..,_=>none
 | .bor ..,_=>none
 |_,_=>some []
def wrm (m:Mm U):List (Lf U)->List (Lf U)->Option (List (Nat×EO U))
 |[],[]=>some []
 |x::xs,y::ys=>match wr1 Y m x y with
  |some u=>match wrm m xs ys with
   |some us=>some (u++us)
   |none=>none
  |none=>none
 |_,_=>none
def bPc (l:List (Nat×EO U))(o:List (EO U)):List (EO U):=List.rec (motive:=λ_=>List (EO U)) o (λx _ ih=>upd ih x.1 x.2) l
def bPd (l:List (Nat×EO U)):List Nat:=List.rec (motive:=λ_=>List Nat) [] (λx _ ih=>x.1::ih) l
def hdT (T:Nat):List Kd->Bool
 | .st T'::_=>Nat.beq T' T
 |_=>false
def bG7 (s:St U)(S:Sum U)(xs:List (Sv U))(K:Sv U->St U->Option α):Option α:=match xs with
 | .l (.box i off)::ys=>match nth s.m.o i with
  |some ⟨.box T cs us,rv,_⟩=>match lC Y s.m S.ar (.a cs::ys) with
   |some a=>bif Nat.beq off 0&&(hdT T S.ar&&(Fe cs&&kV ys)) then bd (S.m a) λr=>match bW Y S.rs r with
    |(true,ds)::rs=>bif Nat.beq (len ds) (len cs) then K (uA rs) (trn s i (.box T ds (us.map λ_=>Nat.succ s.m.k)) rv) else none
    |_=>none
    else none
   |none=>none
  |_=>none
 |_=>none
def Bq {β:Type}(x:Option β):Bool:=match x with
 |some _=>false
 |none=>true
def aV4 (l:List Nat):Bool:=match l with
 |[]=>true
 |_=>false
def stp (s:St U)(op:Op)(K:Sv U->St U->Option α):Option α:=match op with
 | .box T x=>match parts (sG s x) with
  |some cs=>bif Bg cs then K (.l (.box (len s.m.o) 0)) (psh s (.box T cs (cs.map λ_=>s.m.k))) else none
  |none=>none
 | .alloc T=>match iE TI T with
  |some i=>K (.l (.box (len s.m.o) 0)) (psh s (.box T (i.z.map Kz.lf) (i.z.map λ_=>s.m.k)))
  |none=>none
 | .store t x y=>match iE TI t,dS s x,parts (sG s y) with
  |some i, .l (.box b off),some ps=>match nth s.m.o b with
   |some ⟨.box T cs us,rv,_⟩=>bif Nat.beq (len ps) i.k&&(Nat.ble (off+i.k) (len cs)&&Bg ps) then K (.l .any) (trn s b (.box T (o5 cs off ps) (o5 us off (ps.map λ_=>Nat.succ s.m.k))) rv) else none
   |_=>none
  |some i, .l (.oel b c τ q z off),some ps=>bif okv s.m b c then(match nth s.m.o b with
   |some ⟨.tree τ' d l,rv,_⟩=>match slq τ τ' l with
    |some l=>match aAg s.m (tk (drp (Y.kd τ) off) i.k) ps with
     |some (ds,ids,d')=>bif Nat.beq (len ps) i.k&&(Nat.ble (off+i.k) (U.K τ)&&(Bg ps&&dist (b::ids))) then(match Y.C.bld τ (o5 (Y.C.cel τ z) off ds) with
      |some z'=>let s':=trn s b (.tree τ (d&&d') (l.set q.toNat z')) rv
       K (.l .any) ⟨s'.t,⟨Qg s'.m.k ids s'.m.o,s'.m.k,s'.m.ns⟩,s'.fr⟩
      |none=>none) else none
     |none=>none
    |none=>none
   |_=>none) else none
  |some i, .l (.oin b c τ q z j τ' l q' z' off),some ps=>bif okv s.m b c then(match nth s.m.o b with
   |some ⟨.tree τ1 d L,rv,_⟩=>match slq τ τ1 L with
    |some L=>match aAg s.m (tk (drp (Y.kd τ') off) i.k) ps with
     |some (ds,ids,d')=>bif Nat.beq (len ps) i.k&&(Nat.ble (off+i.k) (U.K τ')&&(Bg ps&&dist (b::ids))) then(match Y.C.bld τ' (o5 (Y.C.cel τ' z') off ds) with
      |some z2=>match Y.C.bld τ (upd (Y.C.cel τ z) j (.sl τ' (l.set q'.toNat z2))) with
       |some z3=>let s':=trn s b (.tree τ (d&&d') (L.set q.toNat z3)) rv
        K (.l .any) ⟨s'.t,⟨Qg s'.m.k ids s'.m.o,s'.m.k,s'.m.ns⟩,s'.fr⟩
       |none=>none
      |none=>none) else none
     |none=>none
    |none=>none
   |_=>none) else none
  |_,_,_=>none
 | .buildSlice t n ps=>match iE TI t with
  |some ⟨.sl e ek _,_,_⟩=>bif Nat.beq (len ps.toList) n&&(Nat.ble (n*ek) 16777216&&Fa (U:=U) e ek e) then(match Kt Y s e 0 ps.toList with
   |some (l,ids,d)=>bif !Bq (iE FZ 3000000)&&(!Nat.beq n 0&&aV4 ids) then K (.l (.sl e l)) s else bif dist (len s.m.o::ids) then(let s':=trn (psh s .dead) (len s.m.o) (.tree e d l) s.m.k
    K (.l (.own (len s.m.o) s.m.k)) ⟨s'.t,⟨Qg s'.m.k ids s'.m.o,s'.m.k,s'.m.ns⟩,s'.fr⟩) else none
   |none=>none) else none
  |_=>none
 | .makeSlice t x y=>match iE TI t with
  |some ⟨.sl e ek eb,_,_⟩=>match iE TI e,dS s x with
   |some i, .l (.int .i64 n)=>bif aHc x y&&(Nat.ble eb 2048&&Fa (U:=U) e ek e) then(match rds s.m (Y.kd e) (i.z.map Kz.lf) with
    |some ds=>match Y.C.bld e ds with
     |some z=>gd (bKy n) (K (.l (.own (len s.m.o) s.m.k)) (psh s (.tree e true (List.replicate n.toNat z))))
     |none=>none
    |none=>none) else none
   |_,_=>none
  |_=>none
 | .call ⟨.builtin .append,xa,ats⟩=>match xa.toList,ats.toList with
  |[x,y],[t,t2]=>match iE TI t with
   |some ⟨.sl e ek eb,_,_⟩=>bif Nat.beq t t2&&(Nat.ble eb 2048&&Fa (U:=U) e ek e) then(match dS s x,dS s y with
    | .l (.suf i c τ n l), .l py=>bif okv s.m i c then(match slq e τ l with
     |some l=>match apS Y s.m e i py with
      |some (l',[],_)=>bif Nat.ble 1 (len l') then gd (aW l l') (K (.l (.bor i (Nat.succ s.m.k) e (l.drop n.toNat++l'))) (trn s i .dead (Nat.succ s.m.k))) else none
      |_=>none
     |none=>none) else none
    | .l px, .l py=>match apD s e px with
     |some (i,d,l,s1)=>match apS Y s1.m e i py with
      |some (l',ids,d')=>gd (aW l l') (
       let s2:=trn s1 i (.tree e (d&&d') (l++l')) (Nat.succ s1.m.k)
       K (.l (.own i (Nat.succ s1.m.k))) ⟨s2.t,⟨Qg s2.m.k ids s2.m.o,s2.m.k,s2.m.ns⟩,s2.fr⟩)
      |none=>none
     |none=>none
    |_,_=>none) else none
   |_=>none
  |_,_=>none
 | .call ⟨.value (.func f),xa,_⟩=>match iE FZ f with
  |some S=>bif S.wt&&S.fr then bG7 Y s S (xa.toList.map (dS s)) K else(let xs:=xa.toList.map (dS s)
   match lC Y s.m S.ar xs with
   |some a=>bif S.wt then none
    else bif S.fr then bd (S.m a) λr=>
     let q:=iY s.m.k (len s.m.o) (bW Y S.rs r)
     K (uA q.1) ⟨s.t,⟨s.m.o++q.2,s.m.k,s.m.ns⟩,s.fr⟩
    else bif vW Y S.rs||kV xs then bd (S.m a) λr=>K (uA (bW Y S.rs r)) s
    else match aS2 s.m xs with
     |some (i,c)=>bd (S.m a) λr=>K (uA (Gx i c (bW Y S.rs r))) s
     |none=>none
   |none=>none)
  |none=>none
 | .binOp .add _ x y _=>match sG s x,y with
  | .l (.nat a), .const (.int .i64 n)=>bif decide (n=1) then(match nth s.m.ns a with
    |some (i,f)=>bif f then K (.l (.nat (len s.m.ns))) ⟨s.t,⟨s.m.o,s.m.k,s.m.ns++[(Nat.succ i,false)]⟩,s.fr⟩ else Qu Y TI s op (λx=>K x s)
    |none=>none) else Qu Y TI s op (λx=>K x s)
  |_,_=>Qu Y TI s op (λx=>K x s)
 | .convert ta tb x=>match iE FZ (tb+1000000) with
  |some _=>match iE TI ta,iE TI tb,iE TI Y.bt,dS s x with
   |some ⟨.str,_,_⟩,some ⟨.sl e _ _,_,_⟩,some ⟨.int .u8,_,_⟩, .l (.str z)=>bif Nat.beq e Y.bt then K (.l (.sl Y.bt ((bQ z).map Y.be))) s else none
   |_,_,_,_=>Qu Y TI s op (λx=>K x s)
  |none=>Qu Y TI s op (λx=>K x s)
 | .slice t x none none none=>Qu Y TI s op (λx=>K x s)
 | .slice t x (some b) none none=>match iE FZ 2000000 with
  |some _=>match iE TI t,dS s x,uB (dS s b) with
   |some ⟨.sl e ek _,_,_⟩, .l (.own i r),some n=>match nth s.m.o i with
    |some ⟨.tree τ _ l,rv,cv⟩=>bif Nat.beq rv r&&Fa (U:=U) e ek τ then gd (jH l n) (K (.l (.suf i cv τ n l)) s) else none
    |_=>none
   |_,_,_=>Qu Y TI s op (λx=>K x s)
  |none=>Qu Y TI s op (λx=>K x s)
 |op=>Qu Y TI s op (λx=>K x s)
def one (o:Oper)(s:St U)(K:St U->Option α):Option α:=stp Y TI FZ s o.op λx s'=>K (put s' o.dst x)
def tst (n:Nat)(s:St U)(T F:St U->Option α):Option α:=match nth s.t n with
 |some (.l (.bool b))=>bif b then T (put s (some n) (.l (.bool true))) else F (put s (some n) (.l (.bool false)))
 |some (.l (.lt a m))=>match nth s.m.ns a with
  |some (i,_)=>bif decide ((i:Int)<m) then T (put ⟨s.t,⟨s.m.o,s.m.k,upd s.m.ns a (i,true)⟩,s.fr⟩ (some n) (.l (.bool true))) else F (put s (some n) (.l (.bool false)))
  |none=>none
 |_=>none
def skp (o:Oper)(s:St U)(K:St U->Option α):Option α:=K (put s o.dst (.l .und))
def bJf:Option (Sv U)->Bool
 |some (.l .und)=>true
 |_=>false
def aMa (al:List Oper)(o:Oper)(run:St U->Option α)(s:St U)(K:St U->Option α):Option α:=match o.guard with
 |none=>run s
 |some (j,want)=>match nth al j with
  |some oj=>match oj.dst with
   |some n=>bif bJf (nth s.t n) then skp o s K else
    tst n s (λs=>bif want then run s else skp o s K) (λs=>bif want then skp o s K else run s)
   |none=>none
  |none=>none
def grd (al:List Oper)(o:Oper)(s:St U)(K:St U->Option α):Option α:=aMa al o (λs=>one Y TI FZ o s K) s K
def ops (al:List Oper):List Oper->St U->(St U->Option α)->Option α
 |[],s,K=>K s
 |o::l,s,K=>grd Y TI FZ al o s λs=>ops al l s K
def uC:Op->Nat
 | .box .. | .alloc _| .makeSlice .. =>1
 | .buildSlice .. =>1
 | .call ⟨.value (.func f),_,_⟩=>match iE FZ f with
  |some S=>bif S.wt then 2 else 1
  |none=>1
 | .call ⟨.value _,_,_⟩=>1
 | .store .. =>2
 | .call ⟨.builtin .append,_,_⟩=>2
 | .convert _ b _=>match iE FZ (b+1000000) with
  |some _=>1
  |none=>0
 |_=>0
inductive Lo where
 |s (n:Nat)
 |c (b j:Nat)
inductive DI where
 |dat (l:Lo) (kd:Kd)
 |nat (l:Lo)
 |tr (l:Lo) (i τ:Nat) (d:Bool)
 |nt (l:Lo) (τ:Nat) (d:Bool)
 |ti (i τ:Nat) (d:Bool)
structure Tm where
 ws:List (Nat×Nat)
 it:List DI
 an:List (Nat×Nat)
 dd:List Nat
def DI.ty (U:Uni):DI->Type
 | .dat _ kd=>kd.ty U
 | .nat _=>Nat
 | .tr _ _ τ _=>List (U.El τ)
 | .nt _ τ _=>List (U.El τ)
 | .ti _ τ _=>List (U.El τ)
def Dat (U:Uni):List DI->Type
 |[]=>Unit
 |[k]=>k.ty U
 |k::k'::ks=>k.ty U×Dat U (k'::ks)
def lkp (s:St U):Lo->Option (Sv U)
 | .s n=>nth s.t n
 | .c b j=>match nth s.m.o b with
  |some ⟨.box _ cs _,_,_⟩=>match nth cs j with
   |some x=>some (.l x)
   |none=>none
  |_=>none
def bK3 (m:Mm U)(i τ:Nat)(d:Bool):Option (List (U.El τ)):=match nth m.o i with
 |some ⟨.tree τ' d' l,rv,_⟩=>bif Nat.beq rv 0&&(d'|| !d) then slq τ τ' l else none
 |_=>none
def tK (m:Mm U)(τ:Nat)(d:Bool):Sv U->Option (Option Nat×List (U.El τ))
 | .l .nil=>bif Nat.ble 1 (U.K τ) then some (none,[]) else none
 | .l (.own i r)=>match nth m.o i with
  |some ⟨.tree τ' d' l,rv,_⟩=>bif Nat.beq rv r&&(d'|| !d) then(match slq τ τ' l with
   |some l=>some (some i,l)
   |none=>none) else none
  |_=>none
 |_=>none
def bDh (m:Mm U):Sv U->Option Nat
 | .l (.nat a)=>match nth m.ns a with
  |some (i,_)=>some i
  |none=>none
 | .l (.int .i64 n)=>bif decide (n=0) then some 0 else none
 |_=>none
def aQp (s:St U):(x:DI)->Option (x.ty U)
 | .ti i τ d=>bK3 s.m i τ d
 | .dat l kd=>match lkp s l with
  |some v=>bif aHa v then Kr Y s.m kd v else none
  |none=>none
 | .nat l=>match lkp s l with
  |some v=>bDh s.m v
  |none=>none
 | .tr l _ τ d=>match lkp s l with
  |some v=>match tK s.m τ d v with
   |some q=>some q.2
   |none=>none
  |none=>none
 | .nt l τ d=>match lkp s l with
  |some v=>match tK s.m τ d v with
   |some q=>some q.2
   |none=>none
  |none=>none
def gets (s:St U):(xs:List DI)->Option (Dat U xs)
 |[]=>some ()
 |[x]=>aQp Y s x
 |x::x'::xs=>match aQp Y s x with
  |some a=>match gets s (x'::xs) with
   |some b=>some (a,b)
   |none=>none
  |none=>none
def x8 (s:St U):List DI->Option (List (Option Nat×Option Nat))
 |[]=>some []
 | .ti i _ _::xs=>match x8 s xs with
  |some r=>some ((some i,some i)::r)
  |none=>none
 | .tr l i τ d::xs=>match lkp s l with
  |some v=>match tK s.m τ d v with
   |some q=>match x8 s xs with
    |some r=>some ((some i,q.1)::r)
    |none=>none
   |none=>none
  |none=>none
 | .nt l τ d::xs=>match lkp s l with
  |some v=>match tK s.m τ d v with
   |some q=>match x8 s xs with
    |some r=>some ((none,q.1)::r)
    |none=>none
   |none=>none
  |none=>none
 |_::xs=>x8 s xs
def yO (l:List (Option Nat×Option Nat)):List Nat:=List.rec (motive:=λ_=>List Nat) [] (λx _ ih=>match x.2 with|some i=>i::ih|none=>ih) l
def aAh:List DI->List (Nat×Nat)
 |[]=>[]
 | .dat (.c b j) _::xs=>(b,j)::aAh xs
 | .nat (.c b j)::xs=>(b,j)::aAh xs
 | .tr (.c b j) _ _ _::xs=>(b,j)::aAh xs
 | .nt (.c b j) _ _::xs=>(b,j)::aAh xs
 |_::xs=>aAh xs
def aHf (b j:Nat)(l:List (Nat×Nat)):Bool:=List.rec (motive:=λ_=>Bool) false (λx _ ih=>cond (Nat.beq x.1 b&&Nat.beq x.2 j) true ih) l
def hasB (b:Nat)(l:List (Nat×Nat)):Bool:=List.rec (motive:=λ_=>Bool) false (λx _ ih=>cond (Nat.beq x.1 b) true ih) l
def bG8 (cs:List (Nat×Nat))(k b:Nat):Nat->List Nat->Bool
 |_,[]=>true
 |j,v::vs=>(Nat.ble v k||aHf b j cs)&&bG8 cs k b (Nat.succ j) vs
def aV5 (cs:List (Nat×Nat))(dd:List Nat)(k:Nat):Nat->List (EO U)->List (EO U)->Bool
 |_,[],_=>true
 |i,_::es,e'::es'=>(Nat.ble e'.cv k||(Fb i dd||(match e'.ob with| .box _ _ vs=>hasB i cs&&bG8 cs k i 0 vs|_=>false)))&&aV5 cs dd k (Nat.succ i) es es'
 |_,_,[]=>false
def bAh (N:Nat)(dd:List Nat):List Nat->Bool
 |[]=>true
 |i::is=>(Nat.ble N i||Fb i dd)&&bAh N dd is
def bAi (N:Nat):List Nat->Bool
 |[]=>true
 |i::is=>Nat.ble (Nat.succ i) N&&bAi N is
def gP:List DI->List Nat
 |[]=>[]
 | .tr _ i _ _::xs=>i::gP xs
 | .ti i _ _::xs=>i::gP xs
 |_::xs=>gP xs
def Tm.dead (tm:Tm):List Nat:=gP tm.it++tm.dd
def Tm.aBX (tm:Tm):List (Nat×Nat):=aAh tm.it++tm.an
def Eu:List (Nat×Nat)->Nat->Nat->Bool
 |[],_,_=>false
 |(a,b)::r,p,n=>(Nat.ble (p+a) n&&Nat.ble (Nat.succ n) (p+a+b))||Eu r (p+a+b) n
def slI (ws:List (Nat×Nat)):List DI->Bool
 |[]=>true
 | .dat (.s n) _::xs=>Eu ws 0 n&&slI ws xs
 | .nat (.s n)::xs=>Eu ws 0 n&&slI ws xs
 | .tr (.s n) _ _ _::xs=>Eu ws 0 n&&slI ws xs
 | .nt (.s n) _ _::xs=>Eu ws 0 n&&slI ws xs
 |_::xs=>slI ws xs
def col (b:St U)(tm:Tm)(s:St U):Option (Dat U tm.it):=match x8 s tm.it with
 |some q=>bif slI tm.ws tm.it&&(aV5 tm.aBX tm.dead b.m.k 0 b.m.o s.m.o&&(bAh (len b.m.o) tm.dead (yO q)&&(dist (yO q)&&(dist (gP tm.it)&&bAi (len b.m.o) (gP tm.it))))) then gets Y s tm.it else none
 |none=>none
def aS3 (n:Nat)(K:List (Sv U)->List (Sv U)):List (Sv U)->List (Sv U):=Nat.rec (motive:=λ_=>List (Sv U)->List (Sv U)) K (λ_ ih l=>match l with|[]=>[]|_::t=>Sv.l .any::ih t) n
def aV7 (n:Nat)(K:List (Sv U)->List (Sv U)):List (Sv U)->List (Sv U):=Nat.rec (motive:=λ_=>List (Sv U)->List (Sv U)) K (λ_ ih l=>match l with|[]=>[]|x::t=>x::ih t) n
def wip:List (Nat×Nat)->List (Sv U)->List (Sv U)
 |[],l=>l
 |(a,b)::r,l=>aV7 a (aS3 b (wip r)) l
def wrG (ws:List (Nat×Nat))(al:List Oper)(l:List Oper):Bool:=List.rec (motive:=λ_=>Bool) true (λo _ ih=>cond ((match o.dst with|some n=>Eu ws 0 n|none=>true)&&(match o.guard with|some (j,_)=>(match nth al j with|some oj=>(match oj.dst with|some n=>Eu ws 0 n|none=>true)|none=>true)|none=>true)) ih false) l
def wr (ws:List (Nat×Nat)):Nat->Code->Bool
 |0,_=>false
 |f+1, .seq a b=>wr ws f a&&wr ws f b
 |f+1, .cond (.tmp n) a b=>Eu ws 0 n&&(wr ws f a&&wr ws f b)
 |f+1, .block _ c=>wr ws f c
 |f+1, .loop c=>wr ws f c
 |_+1, .region _ os _=>wrG ws os.toList os.toList
 |_+1, .skip=>true
 |_+1, .ret=>true
 |_+1, .exit _=>true
 |_+1,_=>false
def aBI (s:St U)(x:Sv U):Lo->St U
 | .s n=>put s (some n) x
 | .c b j=>match nth s.m.o b,x with
  |some ⟨.box T cs vs,rv,_⟩, .l y=>trn s b (.box T (upd cs j y) (upd vs j (Nat.succ s.m.k))) rv
  |_,_=>s
def set1 (k n:Nat)(s:St U):(x:DI)->x.ty U->St U
 | .dat l kd,d=>aBI s (aV2 (w9 Y kd d)) l
 | .nat l,i=>aBI ⟨s.t,⟨s.m.o,s.m.k,s.m.ns++[(⟨i,false⟩:Nat×Bool)]⟩,s.fr⟩ (.l (.nat (len s.m.ns))) l
 | .tr l i _ _,_=>aBI s (.l (.own i k)) l
 | .nt l _ _,_=>aBI s (.l (.own n k)) l
 | .ti _ _ _,_=>s
def nxt (n:Nat):DI->Nat
 | .nt .. =>Nat.succ n
 |_=>n
def sets (k n:Nat)(s:St U):(xs:List DI)->Dat U xs->St U
 |[],_=>s
 |[x],d=>set1 Y k n s x d
 |x::x'::xs,d=>sets k (nxt n x) (set1 Y k n s x d.1) (x'::xs) d.2
def aHg (k:Nat):(x:DI)->x.ty U->List (EO U)->List (EO U)
 | .tr _ i τ b,d,o=>upd o i ⟨.tree τ b d,k,k⟩
 | .nt _ τ b,d,o=>o++[⟨.tree τ b d,k,k⟩]
 | .ti i τ b,d,o=>upd o i ⟨.tree τ b d,0,k⟩
 |_,_,o=>o
def aEl (k:Nat):(xs:List DI)->Dat U xs->List (EO U)->List (EO U)
 |[],_,o=>o
 |[x],d,o=>aHg k x d o
 |x::x'::xs,d,o=>aEl k (x'::xs) d.2 (aHg k x d.1 o)
def Iw (k:Nat)(l:List (Nat×Nat))(o:List (EO U)):List (EO U):=List.rec (motive:=λ_=>List (EO U)) o (λx _ ih=>match nth ih x.1 with|some ⟨.box T cs vs,_,_⟩=>upd ih x.1 ⟨.box T (upd cs x.2 .any) (upd vs x.2 k),k,k⟩|_=>ih) l
def reb (b:St U)(tm:Tm)(d:Dat U tm.it):St U:=
 let k:=Nat.succ b.m.k
 sets Y k (len b.m.o) ⟨wip tm.ws b.t,⟨aEl k tm.it d (Iw k tm.aBX (Qg k tm.dead b.m.o)),k,b.m.ns⟩,b.fr⟩ tm.it d
inductive An where
 |n
 |s (a b:An)
 |j (t:Tm) (a:An)
 |jx (t:Tm) (a:An)
 |l (t:Tm) (f:Nat) (a:An)
 |r (a0:Option Nat) (ord:List (Nat×Bool))
 |rj (k:Nat) (t:Tm) (a:An)
 |z (ord:List Nat)
 |y (kb:Bool) (f a0:Option Nat) (ord:List (Nat×Bool))
 |il (i:Nat) (a r:An)
 |w (bs:List Nat) (ord:List (Nat×Bool))
 |v (bs:List Nat) (ord:List (Nat×Bool))
 |u (a0:Option Nat) (bs fs:List Nat) (ord:List (Nat×Bool))
 |pl (a:An)
def bG9:List (Nat×Nat)->Nat->Nat->Nat->Bool
 |[],_,_,_=>false
 |(a,b)::r,p,lo,hi=>(Nat.ble (p+a) lo&&Nat.ble hi (p+a+b))||bG9 r (p+a+b) lo hi
def aV8 (ws:List (Nat×Nat)):List (Nat×Nat)->Nat->Bool
 |[],_=>true
 |(a,b)::r,p=>(Nat.beq b 0||bG9 ws 0 (p+a) (p+a+b))&&aV8 ws r (p+a+b)
def anW (ws:List (Nat×Nat)):An->Bool
 | .s a b=>anW ws a&&anW ws b
 | .j t a=>aV8 ws t.ws 0&&anW ws a
 | .jx t a=>aV8 ws t.ws 0&&anW ws a
 | .l t _ a=>aV8 ws t.ws 0&&anW ws a
 | .rj _ t _=>aV8 ws t.ws 0
 |_=>true
def An.a:An->An
 | .s a _=>a
 |_=> .n
def An.b:An->An
 | .s _ b=>b
 |_=> .n
def bU {β:Type}(n:Nat)(F:(β->Option α)->β->Option α):β->Option α:=Nat.rec (motive:=λ_=>β->Option α) (λ_=>none) (λ_ ih=>F ih) n
def x9 (al:List Oper):List Nat->St U->(St U->Option α)->Option α
 |[],s,K=>K s
 |i::l,s,K=>match nth al i with
  |some o=>grd Y TI FZ al o s λs=>x9 al l s K
  |none=>none
def aDr (l:List (Nat×Bool)):Bool:=List.rec (motive:=λ_=>Bool) true (λx _ ih=>cond x.2 false ih) l
def frees (al:List Oper)(a0:Option Nat):List (Nat×Bool)->Bool
 |[]=>true
 |(i,f)::l=>match nth al i with
  |some o=>bif f then Nat.beq (uC FZ o.op) 0&&frees al a0 l else
   (bif Nat.ble (uC FZ o.op) 1 then frees al a0 l else(match a0 with|some b=>Nat.beq b i|none=>false)&&aDr l)
  |none=>false
def aYp (l:List (Nat×Bool)):List Nat:=List.rec (motive:=λ_=>List Nat) [] (λx _ ih=>x.1::ih) l
def aAi (al:List Oper)(os:Array Oper):An->Option (List Nat)
 | .r a0 ord=>bif aG2 os a0 ord&&frees FZ al a0 ord then some (aYp ord) else none
 | .z ord=>bif Region.noSelect os&&(Nat.beq (len ord) (len al)&&chz os ord (Array.replicate os.size false)) then some ord else none
 |_=>none
def aHh (al:List Oper)(l:List Nat):List Oper:=List.rec (motive:=λ_=>List Oper) [] (λi _ ih=>match nth al i with|some o=>o::ih|none=>ih) l
def aAj:Op->Bool
 | .move _=>true
 | .assign _=>true
 | .extract .. =>true
 |_=>false
def yQ (a:Option Nat)(i:Nat):Bool:=match a with
 |some b=>Nat.beq b i
 |none=>false
def unt:Nat->Nat->List (EO U)->Bool
 |0,_,_=>true
 |_+1,_,[]=>true
 |n+1,k,e::o=>Nat.ble e.cv k&&unt n k o
def unO (kd:Option (Nat×Nat))(o:List (EO U)):Bool:=match kd with
 |some (n,k)=>unt n k o
 |none=>false
def yR (s:St U):Op->Bool
 | .alloc t=> !Bq (iE TI t)
 | .buildSlice t n ps=>match iE TI t with
  |some ⟨.sl e ek _,_,_⟩=>Nat.beq (len ps.toList) n&&(Nat.ble (n*ek) 16777216&&(Fa (U:=U) e ek e&&(match Kt Y s e 0 ps.toList with
   |some (_,[],_)=>true
   |_=>false)))
  |_=>false
 |_=>false
def aMb (s:St U)(d:Option Nat):Bool:=match d with
 |some n=>(match nth s.t n with
  |some (.l .any)=>true
  |_=>false)
 |none=>true
def aV9 (oj:Oper)(d:Option Nat):Bool:=match d with
 |none=>true
 |some n=>match oj.op with
  | .alloc _=>true
  | .buildSlice _ _ ps=>ps.toList.all λx=>match x.2 with| .tmp m=> !Nat.beq n m|_=>true
  |_=>false
def bDj (oj:Oper)(d:Option Nat):Bool:=(match d with
 |none=>true
 |some n=>(match oj.dst with|some m=> !Nat.beq n m|none=>true))&&aV9 oj d
def aDs (al:List Oper)(f:Option Nat)(s:St U):Bool:=match f with
 |some j=>match nth al j with
  |some o=>Bq o.guard&&(aMb s o.dst&&(aV9 o o.dst&&yR Y TI s o.op))
  |none=>false
 |none=>true
def wpe (al:List Oper)(f:Option Nat)(s:St U):St U:=match f with
 |some j=>match nth al j with
  |some o=>put s o.dst (.l .any)
  |none=>s
 |none=>s
def y7 (al:List Oper)(a0:Option Nat)(kd:Option (Nat×Nat)):List (Nat×Bool)->Option Nat->Bool->Bool->St U->(St U->Option α)->Option α
 |[],_,_,_,s,K=>K s
 |(i,fl)::l,f,pre,st,s,K=>match nth al i with
  |some o=>bif fl then(bif Nat.beq (uC FZ o.op) 0&&(aAj o.op||st) then grd Y TI FZ al o s (λs'=>y7 al a0 kd l f pre st s' K) else none)
   else bif aDs Y TI al f s then grd Y TI FZ al o s (λs'=>bif !(pre&& !yQ a0 i)||(Nat.ble (uC FZ o.op) 1||unO kd s'.m.o) then y7 al a0 kd l (bif yQ f i then none else f) (pre&& !yQ a0 i) (st&&Bq kd) s' K else none)
   else none
  |none=>none
def tkY (os:Array Oper)(a0:Option Nat)(i:Nat)(listed:Array Bool):Bool:=Region.free .any os listed i&&(Region.ready .any os listed).contains i&&(match a0 with
 |none=>true
 |some b=>b !=i&&(bAa .any os 40 b i||(match os[i]? with|some o=>aAj o.op|none=>false)))
def a0Y (a0:Option Nat)(i:Nat)(listed:Array Bool):Bool:=a0 !=some i|| !fJ a0 (listed.setIfInBounds i true)
def Ku (os:Array Oper)(a0:Option Nat):List (Nat×Bool)->Array Bool->Bool
 |[],listed=>(Region.ready .any os listed).isEmpty
 |(i,true)::r,listed=>tkY os a0 i listed&&Ku os a0 r (listed.setIfInBounds i true)
 |(i,false)::r,listed=>Region.ready .any os listed==[i]&&(a0Y a0 i listed&&Ku os a0 r (listed.setIfInBounds i true))
def aWa (os:Array Oper)(a0:Option Nat)(oj:Oper)(j:Nat):List (Nat×Bool)->Array Bool->Bool
 |[],_=>false
 |(i,fl)::r,listed=>bif Nat.beq i j then !fl&&Ku os a0 r listed else
  ((match os[i]? with|some o=>bDj oj o.dst|none=>false)&&(bif fl then tkY os a0 i listed&&aWa os a0 oj j r (listed.setIfInBounds i true)
   else Region.ready .any os listed==[i]&&(a0Y a0 i listed&&aWa os a0 oj j r (listed.setIfInBounds i true))))
def bDk (os:Array Oper)(a0:Option Nat)(oj:Oper)(j:Nat):List (Nat×Bool)->Array Bool->Bool
 |[],_=>false
 |(i,fl)::r,listed=>bif Nat.beq i j then !fl&&(Region.ready .any os listed==[i]&&Ku os a0 r (listed.setIfInBounds i true)) else
  bif fl then tkY os a0 i listed&&bDk os a0 oj j r (listed.setIfInBounds i true)
  else((Region.ready .any os listed==[i]||((Region.ready .any os listed==[i,j]||Region.ready .any os listed==[j,i])&&aWa os a0 oj j ((i,fl)::r) (listed.setIfInBounds j true)))
   &&(a0Y a0 i listed&&bDk os a0 oj j r (listed.setIfInBounds i true)))
def aHi (os:Array Oper)(f a0:Option Nat)(ord:List (Nat×Bool)):Bool:=Region.noSelect os&&(Nat.beq (len ord) os.size&&(match f with
 |none=>Ku os a0 ord (Array.replicate os.size false)
 |some j=>a0 !=some j&&(match os[j]? with
  |some oj=>bDk os a0 oj j ord (Array.replicate os.size false)
  |none=>false)))
def ldW (bs:List Nat)(s:St U):Op->Bool
 | .load _ x=>match dS s x with
  | .l (.box b _)=> !Fb b bs
  |_=>false
 |_=>false
def stW (bs:List Nat)(s:St U):Op->Bool
 | .store _ x _=>match dS s x with
  | .l (.box b _)=>Fb b bs
  |_=>false
 |_=>false
def noG (o:Oper):Bool:=match o.guard with
 |none=>true
 |some _=>false
def ptW (FZ:List (Nat×Sum U))(bs:List Nat)(s:St U):Op->Bool
 | .call ⟨.value (.func f),xa,_⟩=>match iE FZ f,xa.toList.map (dS s) with
  |some S, .l (.box b 0)::_=>S.wt&&(S.fr&&Fb b bs)
  |_,_=>false
 |_=>false
def bAj (al:List Oper)(bs:List Nat):List (Nat×Bool)->St U->(St U->Option α)->Option α
 |[],s,K=>K s
 |(i,fl)::l,s,K=>match nth al i with
  |some o=>bif noG o&&(bif fl then ldW bs s o.op else(stW bs s o.op||aAj o.op)) then one Y TI FZ o s (λs'=>bAj al bs l s' K) else none
  |none=>none
def erl (bs:List Nat)(s:St U):Op->Bool
 | .load _ x=>match dS s x with
  | .l (.box b _)=> !Fb b bs
  | .l (.ptr ..)=>true
  |_=>false
 | .fieldAddr .. =>true
 | .pick .. =>true
 | .indexAddr _ x y=>match dS s x,dS s y with
  | .l (.sl ..), .l (.int ..)=>true
  |_,_=>false
 | .binOp b _ x y _=>match b,sG s x,sG s y with
  | .add, .l (.int ..), .l (.int ..)=>true
  | .sub, .l (.int ..), .l (.int ..)=>true
  | .lss, .l (.int ..), .l (.int ..)=>true
  | .leq, .l (.int ..), .l (.int ..)=>true
  | .gtr, .l (.int ..), .l (.int ..)=>true
  | .geq, .l (.int ..), .l (.int ..)=>true
  | .eql, .l (.int ..), .l (.int ..)=>true
  | .neq, .l (.int ..), .l (.int ..)=>true
  |_,_,_=>false
 |op=>aAj op
def bxs (l:List Nat)(o:List (EO U)):Bool:=List.rec (motive:=λ_=>Bool) true (λb _ ih=>match nth o b with|some ⟨.box ..,_,_⟩=>ih|_=>false) l
def aHj:Lf U->Bool
 | .int .. =>true
 | .bool _=>true
 | .str _=>true
 | .sl .. =>true
 | .nil=>true
 |_=>false
def y9 (l:List (Lf U)):Bool:=List.rec (motive:=λ_=>Bool) true (λx _ ih=>aHj x&&ih) l
def Ve:Sv U->Bool
 | .l x=>aHj x
 | .a cs=>y9 cs
 | .t _=>false
def rT (l:List (Sv U)):Bool:=List.rec (motive:=λ_=>Bool) true (λx _ ih=>Ve x&&ih) l
def flc (s:St U)(o:Oper)(K:Option α):Option α:=match o.op with
 | .call ⟨.value (.func f),xa,_⟩=>match iE FZ f with
  |some S=>match lC Y s.m S.ar (xa.toList.map (dS s)) with
   |some a=>bif !S.wt&&(!S.fr&&rT (xa.toList.map (sG s))) then bd (S.m a) λ_=>K else none
   |none=>none
  |none=>none
 |op=>bif yR Y TI s op then K else none
def aMc (oj:Oper)(d:Option Nat):Bool:=match d with
 |none=>true
 |some n=>match oj.op with
  | .call ⟨.value (.func _),xa,_⟩=>xa.toList.all λx=>match x with| .tmp m=> !Nat.beq n m|_=>true
  |_=>aV9 oj d
def aHk (oj:Oper)(d:Option Nat):Bool:=(match d with
 |none=>true
 |some n=>(match oj.dst with|some m=> !Nat.beq n m|none=>true))&&aMc oj d
def bK4 (al:List Oper)(s:St U)(fs:List Nat)(K:Option α):Option α:=List.rec (motive:=λ_=>Option α) K (λj _ ih=>match nth al j with
  |some o=>bif Bq o.guard&&(aMb s o.dst&&aMc o o.dst) then flc Y TI FZ s o ih else none
  |none=>none) fs
def rmv (i:Nat)(l:List Nat):List Nat:=List.rec (motive:=λ_=>List Nat) [] (λx _ ih=>bif Nat.beq x i then ih else x::ih) l
def wpl (al:List Oper)(s:St U)(fs:List Nat):St U:=List.rec (motive:=λ_=>St U) s (λj _ ih=>match nth al j with
 |some o=>put ih o.dst (.l .any)
 |none=>ih) fs
def erp (s:St U)(op:Op):Bool:=aAj op||(match op with
 | .binOp .. =>erl [] s op
 |_=>false)
def Bh (al:List Oper)(a0:Option Nat)(bs:List Nat)(kd:Option (Nat×Nat)):List (Nat×Bool)->List Nat->Bool->Bool->St U->(St U->Option α)->Option α
 |[],_,_,_,s,K=>K s
 |(i,fl)::l,fs,st,ps,s,K=>match nth al i with
  |some o=>bif fl then(bif st then aMa al o (λs1=>bif erl bs s1 o.op then one Y TI FZ o s1 (λs'=>Bh al a0 bs kd l fs st ps s' K) else none) s (λs'=>Bh al a0 bs kd l fs st ps s' K) else(bif erp s o.op&&noG o then one Y TI FZ o s (λs'=>Bh al a0 bs kd l fs st ps s' K) else none))
   else(bif noG o then bK4 Y TI FZ al s fs (
    bif Nat.ble (uC FZ o.op) 1 then one Y TI FZ o s (λs'=>Bh al a0 bs kd l (rmv i fs) false (ps||yQ a0 i) s' K)
    else(bif stW bs s o.op||ptW FZ bs s o.op then one Y TI FZ o s (λs'=>Bh al a0 bs kd l (rmv i fs) false (ps||yQ a0 i) s' K)
    else one Y TI FZ o s (λs'=>bif unO kd s'.m.o||(yQ a0 i||ps) then Bh al a0 bs kd l (rmv i fs) false (ps||yQ a0 i) s' K else none))) else none)
  |none=>none
def aAk (os:Array Oper)(er:List Nat)(d:Option Nat):Bool:=er.all λj=>match os[j]? with
 |some oj=>aHk oj d
 |none=>false
def aEm (os:Array Oper)(a0:Option Nat):Nat->List Nat->List Nat->List (Nat×Bool)->Array Bool->Bool
 |0,_,_,_,_=>false
 |_+1,_,er,[],listed=>er.isEmpty&&(Region.ready .any os listed).isEmpty
 |n+1,pd,er,(i,true)::r,listed=>(match os[i]? with|some o=>aAk os er o.dst|none=>false)&&(tkY os a0 i listed&&aEm os a0 n pd er r (listed.setIfInBounds i true))
 |n+1,pd,er,(i,false)::r,listed=>bif Fb i er then(match os[i]? with
   |some o=>aAk os (rmv i er) o.dst&&(!yQ a0 i&&aEm os a0 n pd (rmv i er) r listed)
   |none=>false) else
  ((Region.ready .any os listed).contains i&&((Region.ready .any os listed).all λj=>bif Nat.beq j i then(match os[i]? with
    |some o=>aAk os er o.dst&&(a0Y a0 i listed&&aEm os a0 n (rmv i pd) er r (listed.setIfInBounds i true))
    |none=>false)
   else(Fb j pd&&(match os[j]? with
    |some oj=>aAk os er oj.dst&&aEm os a0 n (rmv j pd) (j::er) ((i,false)::r) (listed.setIfInBounds j true)
    |none=>false))))
def rgn (al:List Oper)(os:Array Oper)(d:Bool)(an:An)(s:St U)(N:St U->Option α):Option α:=match an with
 | .rj k tm a=>bif d then(match aAi FZ al os a with
   |some l=>x9 Y TI FZ al (tk l k) s λs1=>bif wrG tm.ws al (aHh al (drp l k)) then bd (x9 Y TI FZ al (drp l k) s1 λs'=>col Y s1 tm s') λd=>N (reb Y s1 tm d) else none
   |none=>none) else
   ops Y TI FZ al (tk al k) s λs1=>bif wrG tm.ws al (drp al k) then bd (ops Y TI FZ al (drp al k) s1 λs'=>col Y s1 tm s') λd=>N (reb Y s1 tm d) else none
 | .y kb f a0 ord=>bif d&&aHi os f a0 ord then y7 Y TI FZ al a0 (bif kb then some (len s.m.o,s.m.k) else none) ord f true true (wpe al f s) N else none
 | .w _ _=>none
 | .u a0 bs fs ord=>bif d&&(Region.noSelect os&&(aEm os a0 (Nat.succ (Nat.add (len ord) (len ord))) fs [] ord (Array.replicate os.size false)&&bxs bs s.m.o)) then Bh Y TI FZ al a0 bs (some (len s.m.o,s.m.k)) ord fs true false (wpl al s fs) N else none
 | .v _ _=>none
 |an=>bif d then(match aAi FZ al os an with
   |some l=>x9 Y TI FZ al l s N
   |none=>none) else ops Y TI FZ al al s N
def bHc (s:St U):ResultVar->Option (Sv U)
 | .tmp n=>nth s.t n
 | .cell a t=>match nth s.t a,iE TI t with
  |some (.l (.box b 0)),some i=>match nth s.m.o b with
   |some ⟨.box _ cs _,_,_⟩=>cut i cs 0
   |_=>none
  |_,_=>none
def Tz (s:St U):List ResultVar->Option (List (Sv U))
 |[]=>some []
 |r::rs=>match bHc TI s r with
  |some x=>match Tz s rs with
   |some xs=>some (x::xs)
   |none=>none
  |none=>none
abbrev Il:=List (Nat×Code×Nat×List ResultVar)
def sv2:Sv U->Option (Bool×List (Lf U))
 | .l x=>some (false,[x])
 | .a cs=>some (true,cs)
 | .t _=>none
def aWb:List (Sv U)->Option (List (Bool×List (Lf U)))
 |[]=>some []
 |x::xs=>match sv2 x with
  |some y=>match aWb xs with
   |some ys=>some (y::ys)
   |none=>none
  |none=>none
def bK5:List (Sv U)->Option (Sv U)
 |[x]=>some x
 |xs=>match aWb xs with
  |some l=>some (.t l)
  |none=>none
def inl (IL:Il)(EV:An->Code->St U->(St U->Option α)->Option α)(an:An)(o:Oper)(s:St U)(K:St U->Option α):Option α:=match o.op with
 | .call ⟨.value (.func f),xa,_⟩=>match iE IL f with
  |some (c,n,rv)=>bif Nat.ble (len xa.toList) n then EV an c ⟨xa.toList.map (dS s)++List.replicate (n-len xa.toList) (.l .any),s.m,s.fr⟩ λs'=>match Tz TI s' rv with
    |some ys=>match bK5 ys with
     |some y=>K (put ⟨s.t,s'.m,s.fr⟩ o.dst y)
     |none=>none
    |none=>none
   else none
  |none=>none
 |_=>none
def ilo:An->An
 | .il _ _ r=>ilo r
 |an=>an
def ilr (IL:Il)(EV:An->Code->St U->(St U->Option α)->Option α)(al:List Oper):List Nat->An->St U->(St U->Option α)->Option α
 |[],_,s,K=>K s
 |i::l,an,s,K=>match nth al i with
  |some o=>(match an with
   | .il k a r=>bif Nat.beq k i then(bif Nat.beq (uC FZ o.op) 2 then aMa al o (λs=>inl TI IL EV a o s λs'=>ilr IL EV al l r s' K) s (λs'=>ilr IL EV al l r s' K) else none) else grd Y TI FZ al o s λs'=>ilr IL EV al l (.il k a r) s' K
   |an=>grd Y TI FZ al o s λs'=>ilr IL EV al l an s' K)
  |none=>none
def ilY (IL:Il)(EV:An->Code->St U->(St U->Option α)->Option α)(al:List Oper)(a0:Option Nat):List (Nat×Bool)->An->Bool->Bool->St U->(St U->Option α)->Option α
 |[],_,_,_,s,K=>K s
 |(i,fl)::l,an,pre,st,s,K=>match nth al i with
  |some o=>bif fl then(bif Nat.beq (uC FZ o.op) 0&&(aAj o.op||st) then grd Y TI FZ al o s (λs'=>ilY IL EV al a0 l an pre st s' K) else none)
   else(match an with
    | .il k b r=>bif Nat.beq k i then(bif Nat.beq (uC FZ o.op) 2&& !(pre&& !yQ a0 i) then aMa al o (λs=>inl TI IL EV b o s λs'=>ilY IL EV al a0 l r false st s' K) s (λs'=>ilY IL EV al a0 l r false st s' K) else none)
     else grd Y TI FZ al o s (λs'=>bif !(pre&& !yQ a0 i)||(Nat.ble (uC FZ o.op) 1||unO none s'.m.o) then ilY IL EV al a0 l (.il k b r) (pre&& !yQ a0 i) (st&&Bq (none:Option (Nat×Nat))) s' K else none)
    |an=>grd Y TI FZ al o s (λs'=>bif !(pre&& !yQ a0 i)||(Nat.ble (uC FZ o.op) 1||unO none s'.m.o) then ilY IL EV al a0 l an (pre&& !yQ a0 i) (st&&Bq (none:Option (Nat×Nat))) s' K else none))
  |none=>none
def rng:Nat->Nat->List Nat
 |0,_=>[]
 |n+1,i=>i::rng n (Nat.succ i)
def plT (FZ:List (Nat×Sum U)):List (Nat×Sum U):=FZ.map λp=>(p.1,⟨p.2.ar,p.2.rs,p.2.fr&&p.2.wt,p.2.wt,p.2.m⟩)
def bAk (IL:Il)(EV:An->Code->St U->(St U->Option α)->Option α)(al:List Oper)(os:Array Oper)(d:Bool)(an:An)(s:St U)(N:St U->Option α):Option α:=match an with
 | .il k a r=>match ilo r with
  | .y _ _ a0 ord=>bif d&&aHi os none a0 ord then ilY Y TI FZ IL EV al a0 ord (.il k a r) true true s N else none
  |_=>match(bif d then aAi FZ al os (ilo r) else some (rng (len al) 0)) with
   |some l=>ilr Y TI FZ IL EV al l (.il k a r) s N
   |none=>none
 | .pl a=>match a with
  | .r a0 ord=>rgn Y TI (plT FZ) al os d (.r a0 ord) s N
  |_=>rgn Y TI (plT FZ) al os d .n s N
 |an=>rgn Y TI FZ al os d an s N
def bK6:An->Bool
 | .l .. =>true
 | .s .. =>true
 |_=>false
variable (IL:Il)
def ev:Nat->An->Code->(α:Type)->St U->(St U->Option α)->(Nat->St U->Option α)->(St U->Option α)->Option α
 |0,_,_,_,_,_,_,_=>none
 |f+1, .j tm a,c,α,s,N,_,_=>bif wr tm.ws f c&&anW tm.ws a then bd (ev f a c (Dat U tm.it) s (λs'=>col Y s tm s') (λ_ _=>none) (λ_=>none)) λd=>N (reb Y s tm d) else none
 |f+1, .jx tm a,c,α,s,N,X,R=>bif wr tm.ws f c&&anW tm.ws a then nx (ev f a c (α⊕Dat U tm.it) s (λs'=>bd (col Y s tm s') λd=>some (.inr d)) (λi s'=>bd (X i s') λr=>some (.inl r)) (λs'=>bd (R s') λr=>some (.inl r))) λd=>N (reb Y s tm d) else none
 |f+1,an, .seq a b,α,s,N,X,R=>ev f an.a a α s (λs'=>ev f an.b b α s' N X R) X R
 |f+1,an, .cond c a b,α,s,N,X,R=>match c with
  | .tmp n=>tst n s (λs=>ev f an.a a α s N X R) (λs=>ev f an.b b α s N X R)
  |_=>none
 |f+1,an, .block id c,α,s,N,X,R=>ev f an.a c α s N (λi s'=>bif Nat.beq i id then N s' else X i s') R
 |f+1, .l tm n a, .loop c,α,s,_,X,R=>bif wr tm.ws f c&&anW tm.ws a then bd (col Y s tm s) (bU n λrec d=>ev f a c α (reb Y s tm d) (λs'=>bd (col Y s tm s') rec) X R) else none
 |f+1, .s a b, .loop c,α,s,N,X,R=>bif bK6 b then ev f a c α s (λs'=>ev f b (.loop c) α s' N X R) X R else none
 |_+1,_, .skip,_,s,N,_,_=>N s
 |_+1,_, .ret,_,s,_,_,R=>R s
 |_+1,_, .exit i,_,s,_,X,_=>X i s
 |f+1,an, .region _ os d,α,s,N,_,_=>bAk Y TI FZ IL (λa c s K=>ev f a c α s K (λ_ _=>none) K) os.toList os d an s N
 |_+1,_,_,_,_,_,_,_=>none
def aAl (m:Mm U):List (Lf U)->Option (List Nat)
 |[]=>some []
 | .own i r::xs=>match nth m.o i with
  |some ⟨.tree _ d _,rv,_⟩=>bif Nat.beq rv r&&d then(match aAl m xs with
   |some l=>some (i::l)
   |none=>none) else none
  |_=>none
 |x::xs=>match x with
  | .sl .. =>none
  | .bor .. =>none
  | .inn .. =>none
  |_=>aAl m xs
def bAl (m:Mm U):List (Sv U)->Option (List Nat)
 |[]=>some []
 |x::xs=>match parts x with
  |some cs=>match aAl m cs with
   |some l=>match bAl m xs with
    |some l'=>some (l++l')
    |none=>none
   |none=>none
  |none=>none
def fin (fr:Bool)(ks:List Kd)(rs:List ResultVar)(s:St U):Option (qB U ks):=match Tz TI s rs with
 |some xs=>bif fr then(match bAl s.m xs with
  |some l=>bif dist l&&aHd (U:=U) ks then lC Y s.m ks xs else none
  |none=>none) else lC Y s.m ks xs
 |none=>none
def ini (n:Nat)(ks:List Kd)(a:qB U ks):St U:=
 let l:=(bW Y ks a).map aV2
 ⟨l++List.replicate (n-len l) (.l .any),⟨[],0,[]⟩,[]⟩
def evF (an:An)(c:Code)(n:Nat)(ar rs:List Kd)(fr:Bool)(rv:List ResultVar)(a:qB U ar):Option (qB U rs):=
 ev Y TI FZ IL 1000 an c (qB U rs) (ini Y n ar a) (fin Y TI fr rs rv) (λ_ _=>none) (fin Y TI fr rs rv)
def bHd (n T:Nat)(ks:List Kd)(a:qB U (.st T::ks)):St U:=match bW Y (.st T::ks) a with
 |(_,cs)::us=>let l:=Sv.l (.box 0 0)::us.map aV2
  ⟨l++List.replicate (n-len l) (.l .any),⟨[⟨.box T cs (cs.map λ_=>0),0,0⟩],0,[]⟩,[]⟩
 |[]=>⟨[],⟨[],0,[]⟩,[]⟩
def bDm:Lf U->Bool
 | .own i _=>Nat.ble 1 i
 | .bor i _ _ _=>Nat.ble 1 i
 | .inn i _ _ _ _ _ _ _=>Nat.ble 1 i
 |_=>true
def aN6:List (Lf U)->Bool
 |[]=>true
 |x::xs=>bDm x&&aN6 xs
def bPh:Sv U->Bool
 | .l x=>bDm x
 | .a cs=>aN6 cs
 | .t _=>false
def aS4:List (Sv U)->Bool
 |[]=>true
 |x::xs=>bPh x&&aS4 xs
def bHe (T:Nat)(rs:List Kd)(rv:List ResultVar)(s:St U):Option (qB U (.st T::rs)):=match nth s.m.o 0 with
 |some ⟨.box T' cs _,_,_⟩=>match Tz TI s rv with
  |some xs=>bif Nat.beq T' T&&(aN6 cs&&aS4 xs) then lC Y s.m (.st T::rs) (.a cs::xs) else none
  |none=>none
 |_=>none
def evP (an:An)(c:Code)(n T:Nat)(ks rs:List Kd)(rv:List ResultVar)(a:qB U (.st T::ks)):Option (qB U (.st T::rs)):=
 ev Y TI FZ IL 1000 an c (qB U (.st T::rs)) (bHd Y n T ks a) (bHe Y TI T rs rv) (λ_ _=>none) (bHe Y TI T rs rv)
end
end Go.EV

namespace Go.EV
open Go.RowKit Go.VK
section lists
variable {α:Type}
def aR:∀(l:List α) (n:Nat),nth l n=l[n]?
 |[],n=>by cases n<;>rfl
 |x::l,0=>rfl
 |x::l,n+1=>by rw[eu];exact aR l n
def bX:∀(l:List α) (n:Nat) (y:α),upd l n y=l.set n y
 |[],n,y=>by cases n<;>rfl
 |x::l,0,y=>rfl
 |x::l,n+1,y=>by rw[gj,<-bX l n y];rfl
def aAm:∀(l:List α) (n:Nat),drp l n=l.drop n
 |[],n=>by cases n<;>rfl
 |x::l,0=>rfl
 |x::l,n+1=>by rw[gi];exact aAm l n
def aN7:∀(l:List α) (n:Nat),tk l n=l.take n
 |[],n=>by cases n<;>rfl
 |x::l,0=>rfl
 |x::l,n+1=>by rw[ig,<-aN7 l n];rfl
def bH:∀(l:List α),len l=l.length
 |[]=>rfl
 |x::l=>by rw[av,<-bH l];rfl
def Ff:∀(l:List α) (n:Nat) (vs:List α),n+vs.length<=l.length->o5 l n vs=l.take n++vs++l.drop (n+vs.length)
 |[],n,vs,h=>by
  have h1:vs=[]:=bu (by simp only[bo] at h;omega)
  subst h1;cases n<;>rfl
 |x::l,0,vs,h=>by
  show vs++drp (x::l) (len vs)=_
  rw[aAm,bH];simp
 |x::l,n+1,vs,h=>by
  show x::o5 l n vs=_
  rw[Ff l n vs (by simp at h;omega),show n+1+vs.length=(n+vs.length)+1 by omega];rfl
def bJh:∀{l:List α} {n:Nat} {x:α},l[n]? =some x->At l n x
 |[],n,x,h=>by simp at h
 |y::l,0,x,h=>by simp at h;subst h;exact .z
 |y::l,n+1,x,h=> .s (bJh (by simpa using h))
def aGi {l:List (Nat×α)}{n:Nat}{x:α}(h:iE l n=some x):(n,x)∈l:=by
 induction l with
 |nil=>cases h
 |cons y l ih=>
  have h':cond (Nat.beq y.1 n) (some y.2) (iE l n)=some x:=h
  cases hb:Nat.beq y.1 n with
  |true=>
   rw[hb] at h'
   obtain⟨a,b⟩:=y
   have:a=n:=ah hb
   simp at h';subst h';subst this;exact de
  |false=>rw[hb] at h';exact cY _ (ih h')
end lists
variable {U:Uni} {Y:Lay U} {P:Program} {g:GI} {E:Env U g}
structure bE (C:Cod U) (E:Env U g) (s:St U) (a:Act) (w:World) (β:List Tr):Prop where
 hp:Hp C E s.m β w
 defers:a.defers=[]
 tsz:a.tmps.size=s.t.length
 tm:∀(n:Nat) (x:Sv U),s.t[n]? =some x->x.mean C w (E.X β) β s.m (a.tmps.getD n undef)
section
variable {C:Cod U} {s:St U} {a:Act} {w w':World} {β β':List Tr}
def bE.put (r:bE C E s a w β){d:Option Nat}{x:Sv U}{v:Value}(h:d≠none->x.mean C w (E.X β) β s.m v):bE C E (put s d x) (a.put d v) w β:=by
 cases d with
 |none=>exact r
 |some n=>
  refine⟨r.hp,r.defers,?_,λm y hm=> ?_⟩
  ·simp only[EV.put,bX,ax];simpa[Act.put] using r.tsz
  ·simp only[EV.put,bX] at hm ⊢
   have hml:m<s.t.length:=by have:=lt_of_some hm;simpa using this
   simp only[Act.put]
   by_cases hn:n<s.t.length
   ·rw[vS _ _ _ _ _ (by rw[r.tsz];exact hn)]
    by_cases he:n=m
    ·subst he
     rw[bh hn] at hm
     injection hm with hm
     rw[cH rfl,<-hm];exact h (by simp)
    ·rw[bj he] at hm
     rw[cX he];exact r.tm m y hm
   ·rw[List.set_eq_of_length_le (by omega)] at hm
    have:(a.tmps.setIfInBounds n v)=a.tmps:=by
     apply eM;rw[r.tsz];omega
    rw[this];exact r.tm m y hm
def bE.go (r:bE C E s a w β){m':Mm U}(h:Hp C E m' β' w')(he:Evo w w' (E.X β) (E.X β') β β' s.m m' s.m.o.length s.m.ns.length s.m.k){fr:List (List (Sv U))}:bE C E ⟨s.t,m',fr⟩ a w' β':=
 ⟨h,r.defers,r.tsz,λn x hx=>Sv.aAU he (r.tm n x hx)⟩
def Evo.ext (he:Ext w w'){m:Mm U}(H:Hp C E m β w):Hp C E m β w'/\Evo w w' (E.X β) (E.X β) β β m m m.o.length m.ns.length m.k:=by
 have ev:Evo w w' (E.X β) (E.X β) β β m m m.o.length m.ns.length m.k:=⟨he.size,λ_ _ h=>h,λ_ _ _ h=>he.cell h,aj _,λa i f _ h=>⟨f,h⟩,λi e t _ h1 h2=>⟨e,t,h1,h2,λ_=>⟨rfl,rfl⟩,λ_=>⟨rfl,rfl,rfl,λb hb=>he.block b (H.new i t b h2 hb).2⟩,λh=>⟨h,rfl⟩⟩⟩
 refine⟨⟨H.ext.trans (Bel.aBN he),H.len,H.vers,H.cnt,λi t b h1 h2=>⟨(H.new i t b h1 h2).1,cf (H.new i t b h1 h2).2 he.size⟩,H.dist,H.nd,λi t e h1 h2=>Ob.aBF ev (H.ok i t e h1 h2) λb hb=>he.block b (H.new i t b h1 hb).2,λx hx=>Sv.aAU ev (H.pin x hx),λx hx=> ?_,λf hf=> ?_⟩,ev⟩
 ·obtain⟨h1,h2,h3,h4⟩:=H.prm x hx
  exact⟨h1,(he.block _ (bv.1 h2).1).trans h2,h3,h4⟩
 ·obtain⟨h1,h2,h0,h3⟩:=H.fr f hf
  exact⟨h1,h2,bq h0 he.size,h3.imp id λq=>⟨q.1.trans he,q.2⟩⟩
def bE.ext (r:bE C E s a w β)(he:Ext w w'):bE C E s a w' β:=by
 obtain⟨h1,h2⟩:=Evo.ext he r.hp
 exact r.go h1 h2
def bDn {X:Nat->Prop}{m:Mm U}{v:Value}{x:Lf U}(h:x.mean C w X β m v):(rsv m.ns x).mean C w X β m v:=by
 cases x with
 |nat a=>
  obtain⟨i,f,h1,h2,h3⟩:=h
  simp only[rsv,aR,h1]
  exact⟨h2,by simp[IntKind.min,IntKind.signed,IntKind.bits],by simpa[IntKind.max,IntKind.signed,IntKind.bits] using h3⟩
 |lt a n=>
  obtain⟨i,f,h1,h2,h3⟩:=h
  simp only[rsv,aR,h1]
  exact h2
 |_=>exact h
def lN {τ τ':Nat}{l:List (U.El τ')}{l':List (U.El τ)}(h:slq τ τ' l=some l'):τ'=τ/\HEq l l':=by
 unfold slq at h
 split at h
 ·rename_i he;subst he;simp at h;subst h;exact⟨rfl,HEq.rfl⟩
 ·cases h
def bHf {τ τ':Nat}{l:List (U.El τ')}{l':List (U.El τ)}(h:slq τ τ' l=some l'):Lf.sl τ' l=Lf.sl τ l':=by
 obtain⟨rfl,h⟩:=lN h;rw[ez h]
def Hp.tree (H:Hp C E s.m β w){i:Nat}{t:Tr}{e:EO U}{τ:Nat}{d:Bool}{l:List (U.El τ)}(h1:β[i]? =some t)(h2:s.m.o[i]? =some e)(h3:e.ob= .tree τ d l):Ow C w (E.X β) d t.val (.sl τ l) t.all:=by
 have:=H.ok i t e h1 h2
 rw[h3] at this
 obtain⟨h4,xs,h5,h6⟩:=this
 exact .sl t h4 h5 h6
def bK7 {b:Nat}{i:Nat}{t:Tr}(h1:β[i]? =some t)(h2:b∈t.all):E.X β b:= .inr (.inr ⟨t,az h1,h2⟩)
def bK8:Lf U->Option Nat
 | .own i _=>some i
 | .bor i _ _ _=>some i
 | .inn i _ _ _ _ _ _ _=>some i
 |_=>none
def Fz (β:List Tr)(Z:Nat->Prop)(x:Lf U):Prop:=∀(i:Nat) (t:Tr) (b:Nat),bK8 x=some i->β[i]? =some t->b∈t.all->¬Z b
def Fz.of {Z:Nat->Prop}{x:Lf U}(h:mR x=true\/∀(i:Nat) (t:Tr) (b:Nat),β[i]? =some t->b∈t.all->¬Z b):Fz β Z x:=λi t b ho ht hb=>by
 rcases h with h|h
 ·cases x<;>first|(cases ho;done)|(cases h;done)
 ·exact h i t b ht hb
def aN8 (H:Hp C E s.m β w){v:Value}{x y:Lf U}(hm:x.mean C w (E.X β) β s.m v)(h:qA s.m x=some y){Z:Nat->Prop}(hZ:∀b,Z b->E.X β b)(hZt:Fz β Z x):
  y.aAZ=true/\Rd w Z [] v y.toV:=by
 have hXZ:∀b,b<w.heap.size->Z b->E.X β b:=λb _ hb=>hZ b hb
 cases x with
 |int k n=>simp only[qA,ai] at h;subst h;obtain⟨rfl,h1,h2⟩:=hm;exact⟨rfl, .int h1 h2⟩
 |bool b=>simp only[qA,ai] at h;subst h;obtain rfl:=hm;exact⟨rfl, .bool⟩
 |str z=>simp only[qA,ai] at h;subst h;obtain⟨rfl,h1⟩:=hm;exact⟨rfl, .str h1⟩
 |sl τ l=>simp only[qA,ai] at h;subst h;exact⟨rfl,Rd.conv hm (aj _) hXZ (λ_ _ _ h=>h) (λ_ _ h=>h)⟩
 |nat a=>
  obtain⟨i,f,h1,rfl,h3⟩:=hm
  simp only[qA,aR,h1,ai] at h
  subst h
  exact⟨rfl, .int (by simp[IntKind.min,IntKind.signed,IntKind.bits]) (by simpa[IntKind.max,IntKind.signed,IntKind.bits] using h3)⟩
 |lt a n=>
  obtain⟨i,f,h1,rfl,h3⟩:=hm
  simp only[qA,aR,h1,ai] at h
  subst h
  exact⟨rfl, .bool⟩
 |own i r=>
  obtain⟨_,e,t,h2,h3,h4⟩:=hm
  simp only[qA,aR,h2] at h
  obtain⟨ob,rv,cv⟩:=e
  cases ob with
  |tree τ d l=>
   cases hb:Nat.beq rv r with
   |false=>simp[hb] at h
   |true=>
    simp only[hb,ae,ai] at h
    subst h
    rw[h4 (ah hb)]
    exact⟨rfl,(Hp.tree H h3 h2 rfl).rd hZ (λb hb'=>hZt i t b rfl h3 hb')⟩
  |_=>cases h
 |bor i c τ l=>
  obtain⟨_,e,t,h2,h3,h4⟩:=hm
  simp only[qA,okv,aR,h2] at h
  cases hb:Nat.beq e.cv c with
  |false=>simp[hb] at h
  |true=>
   simp only[hb,ae,ai] at h
   subst h
   refine⟨rfl,(h4 (ah hb)).conv (aj _) (λb _ hb'=>⟨hZ b hb',λhbt=>hZt i t b rfl h3 hbt hb'⟩) (λ_ _ _ h=>h) (λ_ _ h=>h)⟩
 |inn i c τ q z j τ' l=>
  obtain⟨_,e,t,h2,h3,h4⟩:=hm
  simp only[qA,okv,aR,h2] at h
  cases hb:Nat.beq e.cv c with
  |false=>simp[hb] at h
  |true=>
   simp only[hb,ae,ai] at h
   subst h
   obtain⟨d,L,xs,a1,a2,a3,a4,a5,a6⟩:=h4 (ah hb)
   have hok:=H.ok i t e h3 h2
   rw[a1] at hok
   obtain⟨k1,xs',k2,k3⟩:=hok
   obtain rfl:xs'=xs:=by
    rcases dO k2 with⟨b1,b2,b3,_⟩|⟨b,cur,b1,_,_,_,b5,_,b7⟩
    ·rw[b3]
     have:=a5.1;rw[b2] at this;simp at this;exact this.symm
    ·rcases dO a5 with⟨c1,_⟩|⟨b',cur',c1,_,_,_,c5,_,c7⟩
     ·rw[b1] at c1;cases c1
     ·rw[b1] at c1;injection c1 with c1;subst c1
      rw[b5] at c5;injection c5 with c5;injection c5 with c5;subst c5
      rw[<-b7,<-c7]
   obtain⟨l1,l2,g1,g2,g3,g4⟩:=p9 (C.hlen τ) a3
   have hin:(L.map (C.cel τ)).flatten[q.toNat*U.K τ+j]? =some (.sl τ' l):=by
    rw[g3,<-g4,ay (db _ _),cP,aq (lt_of_some a4)]
    exact a4
   have:=(k3.rd hZ (λb hb'=>hZt i t b rfl h3 (by simp[Tr.all,hb']))).2 _ _ _ a6 hin
   exact⟨rfl,this⟩
 |_=>cases h
def Bt (H:Hp C E s.m β w){v:Value}{x y:Lf U}(hm:x.mean C w (E.X β) β s.m v)(h:qA s.m x=some y){Z:Nat->Prop}(hZ:∀b,Z b->E.X β b)(hZt:mR x=true\/∀(i:Nat) (t:Tr) (b:Nat),β[i]? =some t->b∈t.all->¬Z b):
  y.aAZ=true/\Rd w Z [] v y.toV:=aN8 H hm h hZ (Fz.of hZt)
end
end Go.EV
