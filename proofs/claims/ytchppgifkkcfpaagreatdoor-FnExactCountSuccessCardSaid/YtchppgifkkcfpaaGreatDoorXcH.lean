import Derived.Test.YtchppgifkkcfpaaGreatDoorXcL
import Derived.WalkKit
import Derived.Handy
import Derived.BigFrame
import Derived.Maps.Own
import Derived.Maps.Views
/- Printed by wip/tools: models, walks, proofs. -/
set_option linter.all false
set_option maxRecDepth 100000
set_option maxHeartbeats 4000000
namespace Go.VK
open Go.RowKit Go.Maps Go.Proofs
def cAk:Keyed Tryz.prog 3:=int_keyed Tryz.underlying3
def O1 {H:Type}(ix:List Int)(k:Nat):DataW H:=setOf (.lit (.bool true)) ((ix.take k).map λx=>Lit.int .i64 x)
def bAg {H:Type}(ix:List Int):O1 (H:=H) ix 0= .map []:=by simp[O1,setOf]
def bAh {H:Type}{ix:List Int}{k:Nat}(hk:k<ix.length):O1 (H:=H) ix (k+1)=(O1 ix k).put (.int .i64 ix[k]) (.lit (.bool true)):=by unfold O1;rw[cJ,aa hk,cE];simp only[cX,bw,eL];rw[setOf_snoc]
def bIt {α:Type}{p:Nat->α->Bool}:∀(l:List α) (j:Nat),dR p j l=true↔∃(i:Nat) (hi:i<l.length),p (j+i) l[i]=true:=qB
def R64 (x:Int):Prop:=IntKind.i64.min<=x/\x<=IntKind.i64.max
def aIi {x:Int}(h1: -9223372036854775808<=x)(h2:x<=9223372036854775807):R64 x:=by unfold R64;rw[show IntKind.i64.min= -9223372036854775808 by decide,show IntKind.i64.max=9223372036854775807 by decide];exact⟨h1,h2⟩
def bZm {k:Nat}(h:Qa k):R64 (k:Int):=aIi (by omega) (by omega)
def cFg {x:Int}(h:R64 x):(Lit.int .i64 x).wf=true:=by unfold R64 at h;rw[show IntKind.i64.min= -9223372036854775808 by decide,show IntKind.i64.max=9223372036854775807 by decide] at h;simp[Lit.wf,h.1,h.2,show IntKind.i64.min= -9223372036854775808 by decide,show IntKind.i64.max=9223372036854775807 by decide]
def bXb:R64 0:=aIi (by decide) (by decide)
def cDw:R64 1:=aIi (by decide) (by decide)
def cB7 (l:List Int)(k a:Int):R64 (En l k a):=by
 unfold En;cases(decide (k<0)||decide (k>=(l.length:Int)))||dR (Rl (λq=>bQ q 1019) l) 0 l with
 |true=>exact bXb
 |false=>
  have key:∀(r:List Nat) (w:Int),-1019<w->w<1019->-1019<r.foldl (aLw l k a) w/\r.foldl (aLw l k a) w<1019:=by
   intro r;induction r with
   |nil=>intro w h1 h2;exact⟨h1,h2⟩
   |cons j r b=>
    intro w h1 h2;rw[db];have: -1019<aLw l k a w j/\aLw l k a w j<1019:=by
     unfold aLw;cases((j:Int)==k) with
     |true=>exact⟨h1,h2⟩
     |false=>have:=nL (p:=IntKind.i64.wrap ((IntKind.i64.wrap (w*bQ (IntKind.i64.wrap (bQ a 1019-bQ (l.getD j 0) 1019)) 1019)).tmod 1019*yF (IntKind.i64.wrap (bQ (l.getD k.toNat 0) 1019-bQ (l.getD j 0) 1019)))) (q:=1019) (by decide);exact⟨this.1,this.2.1⟩
    exact b _ this.1 this.2
  have:=key (List.range l.length) 1 (by decide) (by decide);exact aIi (by show-9223372036854775808<=(List.range l.length).foldl (aLw l k a) 1;omega) (by show(List.range l.length).foldl (aLw l k a) 1<=9223372036854775807;omega)
def bXc:∀(k:Nat) (b n s:Int),-2039<s->s<2039->-2039<C8 2039 k b n s/\C8 2039 k b n s<2039
 |0,b,n,s,h1,h2=>⟨h1,h2⟩
 |k+1,b,n,s,h1,h2=>by
  unfold C8;split
  ·refine bXc k _ _ _ ?_ ?_
   ·cases n%2==1 with
    |true=>exact(nL (p:=IntKind.i64.wrap (s*b)) (q:=2039) (by decide)).1
    |false=>exact h1
   ·cases n%2==1 with
    |true=>exact(nL (p:=IntKind.i64.wrap (s*b)) (q:=2039) (by decide)).2.1
    |false=>exact h2
  ·exact⟨h1,h2⟩
def bZn (g n:Int):R64 (eY g n):=by
 unfold eY;cases mP g with
 |false=>exact bXb
 |true=>have:=bXc 11 g (bQ n 1019) 1 (by decide) (by decide);exact aIi (by simp only[ae];omega) (by simp only[ae];omega)
def bZo (a b:Int): -2039<kJ a b/\kJ a b<2039:=by
 unfold kJ;cases mP a&&mP b with
 |false=>exact⟨show(-2039:Int)<0 by decide,show(0:Int)<2039 by decide⟩
 |true=>have:=nL (p:=IntKind.i64.wrap (a*b)) (q:=2039) (by decide);exact⟨this.1,this.2.1⟩
def bXd (ix vs:List Int)(k:Nat):R64 ((List.range k).foldl (λo (i:Nat)=>kJ o (eY (vs.getD i 0) (En ix (i:Int) 0))) 1):=by
 cases k with
 |zero=>exact cDw
 |succ k=>rw[dq,fc];have:=bZo ((List.range k).foldl (λo (i:Nat)=>kJ o (eY (vs.getD i 0) (En ix (i:Int) 0))) 1) (eY (vs.getD k 0) (En ix (k:Int) 0));exact aIi (by simp only[db,fp];omega) (by simp only[db,fp];omega)
def Rn {l:List Int}{i:Nat}(h:i<l.length):l.getD i 0=l[i]:=by simp[List.getD,aa h]
set_option maxRecDepth 100000 in
def cFh (a b c:Int)(w:World):Calls Tryz.prog 168 #[.int .i64 a, .int .i64 b, .int .i64 c] w λe w'=>e= .returned (.bool (bE a b c))/\w'=w:=by
 by_cases h1:b<=a
 ·by_cases h2:a<=c
  ·go_enter Tryz.func168,Tryz.ntmps168
   go_wp2
   go_ret
   exact⟨by unfold bE;rw[au h1,au h2];rfl,rfl⟩
  ·go_enter Tryz.func168,Tryz.ntmps168
   go_wp2
   go_ret
   exact⟨by unfold bE;rw[au h1,av (show ¬a<=c by omega)];rfl,rfl⟩
 ·go_enter Tryz.func168,Tryz.ntmps168
  go_wp2
  go_ret
  exact⟨by unfold bE;rw[av (show ¬b<=a by omega)];rfl,rfl⟩
def bKr (a:Addr)(j:Nat):(a.add j).block=a.block:=by unfold Addr.add;split<;>rfl
def bKs {ix vs:List Int}{n k:Nat}(h1:ix.length=n)(h2:vs.length=n)(hk:k<ix.length)(h:oQ ix vs k ix[k]=true):kZ ix vs=(0,false):=by unfold kZ;rw[show dR (oQ ix vs) 0 ix=true from(bIt ix 0).2 ⟨k,hk,by rw[cl];exact h⟩,Bool.or_true];rfl
def bUd {p:Nat->Int->Bool}{l:List Int}{i:Nat}(hi:i<l.length)(h:dR p 0 (l.take i)=false)(h2:p (0+i) l[i]=false):dR p 0 (l.take (i+1))=false:=by
 rw[Bool.eq_false_iff,Ne,bIt] at h ⊢;rintro⟨k,hk,e⟩;rw[cb] at hk;rw[fb] at e;by_cases a:k<i
 ·exact h ⟨k,by rw[cb];omega,by rw[fb];exact e⟩
 ·have:k=i:=by omega
  subst this;rw[h2] at e;cases e
def bXe {ix vs:List Int}{n:Nat}(h1:ix.length=n)(h2:vs.length=n)(h0:0<n)(h:dR (oQ ix vs) 0 (ix.take n)=false):kZ ix vs=((List.range n).foldl (λo (i:Nat)=>kJ o (eY (vs.getD i 0) (En ix (i:Int) 0))) 1,true):=by rw[<-h1,cq] at h;unfold kZ bRx;rw[h,h1,h2,fg,cp.2 (show n≠0 by omega)];rfl
def own_below {w w':World}{b n:Nat}{D:DataW Unit}(h:w.ownsMap Tryz.prog 3 (plainElem Tryz.prog 4) b n D)(hb:Below w.heap.size w w'):w'.ownsMap Tryz.prog 3 (plainElem Tryz.prog 4) b n D:=by have a:=h.lt;obtain⟨es,clock,c,d,e,f⟩:=h;exact⟨es,clock,(hb.block b a).trans c,d,e,f⟩
def bR5 (x:Int):WideAt.IsKeyLit (.int .i64 x):=by first|trivial|exact rfl|simp[WideAt.IsKeyLit]
def bXf {H:Type}{ix:List Int}(j:Nat):IsMap (O1 (H:=H) ix j):=(tidy_setOf _ _ (λx a=>by obtain⟨y,_,rfl⟩:=cz.1 a;exact bR5 y)).isMap
def bZp {H:Type}{ix:List Int}:∀{k:Nat} (hk:k<ix.length),(O1 (H:=H) ix k).atKey (.int .i64 ix[k]) (.lit (.bool false))= .lit (.bool (Rl (λq=>q) ix k ix[k])):=by
 intro k hk;have key:∀j,j<=k->(O1 (H:=H) ix j).atKey (.int .i64 ix[k]) (.lit (.bool false))= .lit (.bool ((ix.take j).any λq=>q==ix[k])):=by
  intro j;induction j with
  |zero=>intro _;rw[bAg];rfl
  |succ j a=>
   intro b;rw[bAh (show j<ix.length by omega),cJ,aa (show j<ix.length by omega),ie];simp only[cX,List.any_cons,List.any_nil,fw];by_cases he:ix[j]=ix[k]
   ·rw[he,atKey_put_same (bXf j) (bR5 _),fg,Bool.or_true]
   ·rw[atKey_put_other (by simpa using λh=>he h.symm),a (by omega),cp.2 he,fw]
 exact key k (ao _)
def bPy {v:Value}{x:Bool}{ps:List MemPlace}(hv:plainElem (H:=Unit) Tryz.prog 4 v=some (.lit (.bool x),ps)):v= .bool x:=by
 have a:Tryz.prog.underlying 4=some .bool:=Tryz.underlying4;unfold plainElem at hv;split at hv
 ·simp only[aj,cD,DataW.lit.injEq,Lit.bool.injEq] at hv;rw[hv.1]
 ·rename_i e;rw[a] at e;cases e
 ·rename_i e;rw[a] at e;cases e
 ·cases hv
def bUe {wr:World}{b n:Nat}{ix:List Int}{k:Nat}(hown:wr.ownsMap Tryz.prog 3 (plainElem Tryz.prog 4) b n (O1 (H:=Unit) ix k))(hk:k<ix.length)(d:(Lit.int .i64 ix[k]).wf=true):
  (Instr.lookup 441 (.map (some b)) (.int .i64 ix[k]) false).run Tryz.prog wr= .ok (.bool (Rl (λq=>q) ix k ix[k])) wr:=by
 have a:keyOf Tryz.prog 3 (.int .i64 ix[k])=some (.int .i64 ix[k]):=keyOf_int_mk Tryz.underlying3 d;have f:(zeroValue 4).run Tryz.prog wr= .ok (.bool false) wr:=by kernel_rfl
 obtain⟨v,ps,c,hv⟩:=hown.lookup cAk Tryz.underlying441 f (plainElem_bool Tryz.underlying4 false) a;have e:(O1 (H:=Unit) ix k).atKey (.int .i64 ix[k]) (.lit (.bool false))= .lit (.bool (Rl (λq=>q) ix k ix[k])):=bZp hk;rw[e] at hv;have:v= .bool (Rl (λq=>q) ix k ix[k]):=bPy hv;rw[<-this];exact c
set_option maxRecDepth 100000 in
set_option maxHeartbeats 8000000 in
def cB8 (hGE:∀(a:Int) (w:World),R64 a->G0.G w->Calls Tryz.prog 454 #[.int .i64 a] w λe w'=>e= .returned (.bool (mP a))/\Below w.heap.size w w')
  (hPG:∀(a b:Int) (w:World),R64 a->R64 b->G0.G w->Calls Tryz.prog 451 #[.int .i64 a, .int .i64 b] w λe w'=>e= .returned (.int .i64 (eY a b))/\Below w.heap.size w w')
  (hMG:∀(a b:Int) (w:World),R64 a->R64 b->G0.G w->Calls Tryz.prog 455 #[.int .i64 a, .int .i64 b] w λe w'=>e= .returned (.int .i64 (kJ a b))/\Below w.heap.size w w')
  (a1 a2:Addr) (n c1 c2:Nat) (hn:0<n) (hn2:Qa n) (ix vs:List Int) (hl1:ix.length=n) (hl2:vs.length=n) (w:World) (hG:G0.G w) (hr1:∀x∈ix,R64 x) (hr2:∀x∈vs,R64 x) (hb1:a1.block<w.heap.size) (hb2:a2.block<w.heap.size)
  (hLW:∀(k:Int) (wr:World),R64 k->G0.G wr->Below w.heap.size w wr->Calls Tryz.prog 456 #[.slice (some a1) n c1, .int .i64 k, .int .i64 0] wr λe w'=>e= .returned (.int .i64 (En ix k 0))/\Below wr.heap.size wr w')
  (hc1:∀j,j<n->w.cell? (a1.add j)=some (.int .i64 (ix.getD j 0))) (hc2:∀j,j<n->w.cell? (a2.add j)=some (.int .i64 (vs.getD j 0))):
  Calls Tryz.prog 405 #[.slice (some a1) n c1, .slice (some a2) n c2] w λe w'=>e= .returned (.tuple #[.int .i64 (kZ ix vs).1, .bool (kZ ix vs).2])/\Below w.heap.size w w':=by
 have hmm:= @run_makeMap Tryz.prog
 go_enter Tryz.func405,Tryz.ntmps405
 go_wp2
 have hz0:((n:Int)==0)=false:=cp.2 (by omega);simp only[hz0]
 go_loopw [25] (λi wr=>∃k:Nat,k<=n/\i= .int .i64 k/\wr.ownsMap Tryz.prog 3 (plainElem Tryz.prog 4) w.heap.size k (O1 (H:=Unit) ix k)/\Below w.heap.size w wr/\dR (oQ ix vs) 0 (ix.take k)=false)
  (λi _=>n-(intOf i).toNat)
 case atStart=>exact⟨0,cm _,rfl,by rw[bAg];exact World.ownsMap_made _ _ _ _,(Below.refl _ _).alloc (ao _) _,rfl⟩
 case round=>
  obtain⟨k,hk,rfl,hown,hnx,hno⟩:=hrel;by_cases hkn:k<n
  ·have hk1:k<ix.length:=by omega
   have hk2:k<vs.length:=by omega
   have hcx:wr.cell? (a1.add k)=some (.int .i64 ix[k]):=(hnx.cell (by rw[bKr];exact hb1)).trans ((hc1 k hkn).trans (by rw[Rn hk1]));have hcy:wr.cell? (a2.add k)=some (.int .i64 vs[k]):=(hnx.cell (by rw[bKr];exact hb2)).trans ((hc2 k hkn).trans (by rw[Rn hk2]));have hwx:=cFg (hr1 _ (cx hk1));have hrun:=bUe hown hk1 hwx;have hGr:G0.G wr:=G0.st w wr hG hnx
   go_wp2_with fail
   go_call (cFh _ _ _ _) as e w' ⟨he,hw⟩
   subst he;subst hw;cases hir:bE ix[k] 1 7 with
   |false=>
    go_wp2_with fail
    go_ret2
    exact⟨by rw[bKs hl1 hl2 hk1 (by unfold oQ;rw[hir];rfl)];rfl,hnx⟩
   |true=>
    cases hd:Rl (λq=>q) ix k ix[k] with
    |true=>
     rw[hd] at hrun
     go_wp2_with fail
     go_ret2
     exact⟨by rw[bKs hl1 hl2 hk1 (by unfold oQ;rw[hd];simp)];rfl,hnx⟩
    |false=>
     rw[hd] at hrun
     go_wp2_with fail
     go_call (hGE vs[k] _ (hr2 _ (cx hk2)) hGr) as e w2 ⟨he,hbw⟩
     subst he;cases hge:mP vs[k] with
     |false=>
      go_wp2_with fail
      go_ret2
      exact⟨by rw[bKs hl1 hl2 hk1 (by unfold oQ;rw[Rn hk2,hge];simp)];rfl,Below.trans hnx (Below.mono hbw hnx.size)⟩
     |true=>
      have hown2:=own_below hown hbw;have hkey:keyOf Tryz.prog 3 (.int .i64 ix[k])=some (.int .i64 ix[k]):=keyOf_int_mk Tryz.underlying3 hwx
      go_wp2_with (first
       |(at_mapUpdate;refine wpList_mapUpdate_own _ rfl _ _ _ 441 rfl 3 4 cAk Tryz.underlying441 (plainElem (H:=Unit) Tryz.prog 4) w.heap.size k _ rfl hown2 (by unfold maxLen;omega) _ _ _ rfl rfl hkey _ [] (plainElem_bool Tryz.underlying4 true) ?_;intro w1 hown1 hgrow1)
       |fail)
      go_roundw
      case rel=>
       have hb3:=Below.trans hnx (Below.mono hbw hnx.size);refine⟨k+1,by omega,by go_num,(bAh hk1).symm▸hown1,hb3.grown hgrow1 hb3.size (λj hj=>by cases hj;exact ao _),bUd hk1 hno (by unfold oQ;rw[cl,Rn hk2,hge,hir,hd];rfl)⟩
      case measure=>simp[intOf];omega
  ·have hkn2:k=n:=by omega
   subst hkn2
   go_wp2_with fail
   go_loopw [9,51] (λo i wr=>∃k':Nat,k'<=k/\i= .int .i64 k'/\o= .int .i64 ((List.range k').foldl (λo (i:Nat)=>kJ o (eY (vs.getD i 0) (En ix (i:Int) 0))) 1)/\Below w.heap.size w wr)
    (λ_ i _=>k-(intOf i).toNat)
   case atStart=>exact⟨0,cm _,rfl,rfl,hnx⟩
   case round=>
    obtain⟨k',hk',rfl,rfl,hnx'⟩:=hrel;by_cases hkn':k'<k
    ·have hk2:k'<vs.length:=by omega
     have hcy:wr.cell? (a2.add k')=some (.int .i64 vs[k']):=(hnx'.cell (by rw[bKr];exact hb2)).trans ((hc2 k' hkn').trans (by rw[Rn hk2]));have hG1:G0.G wr:=G0.st w wr hG hnx'
     go_wp2_with fail
     go_call (hLW (k':Int) _ (bZm (by omega)) hG1 hnx') as e w2 ⟨he,hbw⟩
     subst he;have hn2:=Below.trans hnx' (Below.mono hbw hnx'.size);have hG2:G0.G w2:=G0.st w w2 hG hn2
     go_wp2_with fail
     go_call (hPG vs[k'] (En ix (k':Int) 0) _ (hr2 _ (cx hk2)) (cB7 _ _ _) hG2) as e w3 ⟨he,hbw3⟩
     subst he;have hn3:=Below.trans hn2 (Below.mono hbw3 hn2.size);have hG3:G0.G w3:=G0.st w w3 hG hn3
     go_wp2_with fail
     go_call (hMG _ _ _ (bXd _ _ _) (bZn _ _) hG3) as e w4 ⟨he,hbw4⟩
     subst he;have hn4:=Below.trans hn3 (Below.mono hbw4 hn3.size)
     go_wp2_with fail
     go_roundw
     case rel=>exact⟨k'+1,by omega,by go_num,by rw[dq,fc];simp[List.getD,aa hk2],hn4⟩
     case measure=>simp[intOf];omega
    ·have hkk:k'=k:=by omega
     subst hkk
     go_wp2_with fail
     go_ret2
     exact⟨by rw[bXe hl1 hl2 hn hno];rfl,hnx'⟩
set_option maxRecDepth 100000 in
set_option maxHeartbeats 8000000 in
def bPz (A1 A2:Option Addr)(n1 n2 c1 c2:Nat)(h:n1≠n2\/n1=0)(w:World):Calls Tryz.prog 405 #[.slice A1 n1 c1, .slice A2 n2 c2] w λe w'=>e= .returned (.tuple #[.int .i64 0, .bool false])/\Below w.heap.size w w':=by
 by_cases h0:n1=n2
 ·have h1:n1=0:=by omega
  subst h1;subst h0
  go_enter Tryz.func405,Tryz.ntmps405
  go_wp2_with fail
  go_ret2
  exact⟨rfl,Below.refl _ _⟩
 ·have hne:((n1:Int) !=(n2:Int))=true:=by simp;omega
  go_enter Tryz.func405,Tryz.ntmps405
  go_wp2_with fail
  all_goals first
   |(go_ret2;exact⟨rfl,Below.refl _ _⟩)
   |(exfalso;omega)
def cDx {w:World}{X:Nat->Prop}{v:Value}{es:List (List V)}(h:Rd w X [] v (.slice 1 es))(h0:0<es.length):
  ∃a c,v= .slice (some a) es.length c/\a.block<w.heap.size/\∀(i:Nat) (e:List V) (d:V),es[i]? =some e->e[0]? =some d->∃u,w.cell? (a.add i)=some u/\Rd w X [] u d:=by
 cases h with
 |slice0 hc=>simp at h0
 |slice hn hpos hc hm hX hb hk hcell hrd=>
  subst hn;refine⟨_,_,rfl,hb,λi e d h1 h2=>⟨_,?_,hrd i 0 e d h1 h2⟩⟩
  have:=hcell i 0 e d h1 h2;simpa using this
def bR6 {w:World}{X:Nat->Prop}{v:Value}{l:List Int}(h:Rd w X [] v (.slice 1 (l.map iV)))(h0:0<l.length):
  ∃a c,v= .slice (some a) l.length c/\a.block<w.heap.size/\(∀j,j<l.length->w.cell? (a.add j)=some (.int .i64 (l.getD j 0)))/\∀x∈l,R64 x:=by
 obtain⟨a,c,d,e,f⟩:=cDx h (by simpa using h0);rw[bn] at d;have key:∀j (b:j<l.length),w.cell? (a.add j)=some (.int .i64 l[j])/\R64 l[j]:=λj b=>by
  obtain⟨u,h1,h2⟩:=f j (iV l[j]) (.int .i64 l[j]) (by rw[bq,aa b];rfl) rfl;obtain⟨rfl,i,k⟩:=h2.aAR;exact⟨h1,i,k⟩
 refine⟨a,c,d,e,λj b=>by rw[Rn b];exact(key j b).1,λx m=> ?_⟩;obtain⟨j,b,rfl⟩:=du.1 m;exact(key j b).2
def bUf (J:∀args w,(callFunc 405 args).run Tryz.prog w= .ok (.enter 405 args) w)
  (sGE:∀a:Int,Spec Tryz.prog G0 454 [.int .i64 a] (λr=>r= .bool (mP a))) (sPG:∀a b:Int,Spec Tryz.prog G0 451 [.int .i64 a, .int .i64 b] (λr=>r= .int .i64 (eY a b)))
  (sMG:∀a b:Int,Spec Tryz.prog G0 455 [.int .i64 a, .int .i64 b] (λr=>r= .int .i64 (kJ a b)))
  (sLW:∀(l:List Int) (k a:Int),Qa l.length->Spec Tryz.prog G0 456 [.slice 1 (l.map iV), .int .i64 k, .int .i64 a] (λr=>r= .int .i64 (En l k a)))
  (ix vs:List Int) (h:Qa ix.length/\Qa vs.length):Spec Tryz.prog G0 405 [.slice 1 (ix.map iV), .slice 1 (vs.map iV)] (λr=>r= .tup [.int .i64 (kZ ix vs).1, .bool (kZ ix vs).2]):=by
 refine⟨J,λw X0 vals K A t=> ?_⟩;obtain⟨v,u,rfl⟩:∃v u,vals=[v,u]:=by
  match vals,t.1 with
  |[v,u],_=>exact⟨v,u,rfl⟩
 have B:=t.2 0 v _ rfl rfl;have H:=t.2 1 u _ rfl rfl;have one:∀{f:FuncId} {a:Int} {q:V} (hs:Spec Tryz.prog G0 f [.int .i64 a] (λr=>r=q)) (w:World),R64 a->G0.G w->Calls Tryz.prog f #[.int .i64 a] w λe w'=>∃x,e= .returned x/\Rd w' (λ_=>False) [] x q/\Ext w w':=λ{f a q} hs w o hg=>
  (hs.2 w (λ_=>False) [.int .i64 a] hg (λ_ h=>h.elim) ⟨rfl,λi v c p q=>by
   match i with
   |0=>simp at p q;subst p;subst q;exact .int o.1 o.2
   |i+1=>simp at p⟩).mono (λe w' ⟨x,r,d,m,s,y⟩=>⟨x,d,by rw[<-m];exact s,y⟩)
 have two:∀{f:FuncId} {a b:Int} {q:V} (hs:Spec Tryz.prog G0 f [.int .i64 a, .int .i64 b] (λr=>r=q)) (w:World),R64 a->R64 b->G0.G w->Calls Tryz.prog f #[.int .i64 a, .int .i64 b] w λe w'=>∃x,e= .returned x/\Rd w' (λ_=>False) [] x q/\Ext w w':=λ{f a b q} hs w o hb hg=>
  (hs.2 w (λ_=>False) [.int .i64 a, .int .i64 b] hg (λ_ h=>h.elim) ⟨rfl,λi v c p q=>by
   match i with
   |0=>simp at p q;subst p;subst q;exact .int o.1 o.2
   |1=>simp at p q;subst p;subst q;exact .int hb.1 hb.2
   |i+2=>simp at p⟩).mono (λe w' ⟨x,r,d,m,s,y⟩=>⟨x,d,by rw[<-m];exact s,y⟩)
 have fin:∀{w':World} (n:Int) (b:Bool),R64 n->Rd w' X0 [] (.tuple #[.int .i64 n, .bool b]) (.tup [.int .i64 n, .bool b]):=λ{w'} n b hn=>
  .tup rfl (λi v c p q=>by
   match i with
   |0=>simp at p q;subst p;subst q;exact .int hn.1 hn.2
   |1=>simp at p q;subst p;subst q;exact .bool
   |i+2=>simp at p)
 by_cases hs:ix.length≠vs.length\/ix.length=0
 ·obtain⟨L,z,rfl,_⟩:=B.aBA;obtain⟨M,D,rfl,_⟩:=H.aBA;rw[bn,bn];have hc:kZ ix vs=(0,false):=by
   unfold kZ;have:(!(ix.length==vs.length)||ix.length==0)=true:=by
    rcases hs with hs|hs
    ·rw[cp.2 hs];rfl
    ·rw[hs];simp
   rw[this];rfl
  rw[hc];exact(bPz L M _ _ z D hs w).mono (λe w' ⟨d,m⟩=>⟨_,_,d,rfl,fin 0 false (aIi (by decide) (by decide)),m⟩)
 ·have hl:ix.length=vs.length/\0<ix.length:=by omega
  obtain⟨I,z,rfl,b1,N,O⟩:=bR6 B hl.2;obtain⟨Q,D,rfl,d1,d2,d3⟩:=bR6 H (by omega);rw[<-hl.1];have F:R64 (kZ ix vs).1:=by
   unfold kZ;cases(!(ix.length==vs.length)||ix.length==0)||dR (oQ ix vs) 0 ix with
   |true=>exact bXb
   |false=>exact bXd ix vs _
  refine(cB8 (λa w o hg=>(one (sGE a) w o hg).mono (λe w' ⟨x,d,m,s⟩=>⟨by rw[d,m.aAU],s⟩)) (λa b w o hb hg=>(two (sPG a b) w o hb hg).mono (λe w' ⟨x,d,m,s⟩=>⟨by rw[d,m.aAR.1],s⟩)) (λa b w o hb hg=>(two (sMG a b) w o hb hg).mono (λe w' ⟨x,d,m,s⟩=>⟨by rw[d,m.aAR.1],s⟩))
   I Q ix.length z D hl.2 h.1 ix vs rfl hl.1.symm w K O d3 b1 d1 (λk wr hk hg hb=> ?_) N (λj R=>d2 j (by omega))).mono (λe w' ⟨d,m⟩=>⟨_,_,d,rfl,fin _ _ F,m⟩)
  refine((sLW ix k 0 h.1).2 wr X0 [.slice (some I) ix.length z, .int .i64 k, .int .i64 0] hg (λb hb'=>ca (A b hb') hb.size) ⟨rfl,λi v c p q=> ?_⟩).mono (λe w' ⟨x,r,d,m,s,y⟩=>⟨by subst m;rw[d,s.aAR.1],y⟩)
  match i with
  |0=>simp at p q;subst p;subst q;exact B.ext hb
  |1=>simp at p q;subst p;subst q;exact .int hk.1 hk.2
  |2=>simp at p q;subst p;subst q;exact .int (by decide) (by decide)
  |i+3=>simp at p
end Go.VK
