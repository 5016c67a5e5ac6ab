import Derived.Test.YtbaeclcknbiehaaGreatDoorXbL
import Derived.WalkKit
import Derived.Handy
import Derived.BigFrame
import Derived.Maps.Own
import Derived.Maps.Views
/- Printed by wip/tools: models, walks, proofs. -/
set_option linter.all false
set_option maxRecDepth 100000
set_option maxHeartbeats 4000000
namespace Go.VK
open Go.RowKit Go.Maps Go.Proofs
def bYo:Keyed Tryz.prog 3:=int_keyed Tryz.underlying3
def aAq {H:Type}(ix:List Int)(k:Nat):DataW H:=setOf (.lit (.bool true)) ((ix.take k).map λx=>Lit.int .i64 x)
def aYi {H:Type}(ix:List Int):aAq (H:=H) ix 0= .map []:=by simp[aAq,setOf]
def aYj {H:Type}{ix:List Int}{k:Nat}(hk:k<ix.length):aAq (H:=H) ix (k+1)=(aAq ix k).put (.int .i64 ix[k]) (.lit (.bool true)):=by unfold aAq;rw[db,ab hk,cQ];simp only[du,bn,e9];rw[setOf_snoc]
def bDz {α:Type}{p:Nat->α->Bool}:∀(l:List α) (j:Nat),eF p j l=true↔∃(i:Nat) (hi:i<l.length),p (j+i) l[i]=true:=sI
def R64 (x:Int):Prop:=IntKind.i64.min<=x/\x<=IntKind.i64.max
def aIb {x:Int}(h1: -9223372036854775808<=x)(h2:x<=9223372036854775807):R64 x:=by unfold R64;rw[show IntKind.i64.min= -9223372036854775808 by decide,show IntKind.i64.max=9223372036854775807 by decide];exact⟨h1,h2⟩
def bXy {k:Nat}(h:k<=34359738368):R64 (k:Int):=aIb (by omega) (by omega)
def cE4 {x:Int}(h:R64 x):(Lit.int .i64 x).wf=true:=by unfold R64 at h;rw[show IntKind.i64.min= -9223372036854775808 by decide,show IntKind.i64.max=9223372036854775807 by decide] at h;simp[Lit.wf,h.1,h.2,show IntKind.i64.min= -9223372036854775808 by decide,show IntKind.i64.max=9223372036854775807 by decide]
def bVg:R64 0:=aIb (by decide) (by decide)
def cDe:R64 1:=aIb (by decide) (by decide)
def cBp (l:List Int)(k a:Int):R64 (Ga l k a):=by
 unfold Ga;cases(decide (k<0)||decide (k>=(l.length:Int)))||eF (Te (λq=>cO q 1019) l) 0 l with
 |true=>exact bVg
 |false=>
  have key:∀(r:List Nat) (w:Int),-1019<w->w<1019->-1019<r.foldl (aKe l k a) w/\r.foldl (aKe l k a) w<1019:=by
   intro r;induction r with
   |nil=>intro w h1 h2;exact⟨h1,h2⟩
   |cons j r b=>
    intro w h1 h2;rw[cU];have: -1019<aKe l k a w j/\aKe l k a w j<1019:=by
     unfold aKe;cases((j:Int)==k) with
     |true=>exact⟨h1,h2⟩
     |false=>have:=qD (p:=IntKind.i64.wrap ((IntKind.i64.wrap (w*cO (IntKind.i64.wrap (cO a 1019-cO (l.getD j 0) 1019)) 1019)).tmod 1019*zS (IntKind.i64.wrap (cO (l.getD k.toNat 0) 1019-cO (l.getD j 0) 1019)))) (q:=1019) (by decide);exact⟨this.1,this.2.1⟩
    exact b _ this.1 this.2
  have:=key (List.range l.length) 1 (by decide) (by decide);exact aIb (by show-9223372036854775808<=(List.range l.length).foldl (aKe l k a) 1;omega) (by show(List.range l.length).foldl (aKe l k a) 1<=9223372036854775807;omega)
def bVh:∀(k:Nat) (b n s:Int),-2039<s->s<2039->-2039<F5 2039 k b n s/\F5 2039 k b n s<2039
 |0,b,n,s,h1,h2=>⟨h1,h2⟩
 |k+1,b,n,s,h1,h2=>by
  unfold F5;split
  ·refine bVh k _ _ _ ?_ ?_
   ·cases n%2==1 with
    |true=>exact(qD (p:=IntKind.i64.wrap (s*b)) (q:=2039) (by decide)).1
    |false=>exact h1
   ·cases n%2==1 with
    |true=>exact(qD (p:=IntKind.i64.wrap (s*b)) (q:=2039) (by decide)).2.1
    |false=>exact h2
  ·exact⟨h1,h2⟩
def bXz (g n:Int):R64 (fJ g n):=by
 unfold fJ;cases oO g with
 |false=>exact bVg
 |true=>have:=bVh 11 g (cO n 1019) 1 (by decide) (by decide);exact aIb (by simp only[ae];omega) (by simp only[ae];omega)
def bX0 (a b:Int): -2039<lZ a b/\lZ a b<2039:=by
 unfold lZ;cases oO a&&oO b with
 |false=>exact⟨show(-2039:Int)<0 by decide,show(0:Int)<2039 by decide⟩
 |true=>have:=qD (p:=IntKind.i64.wrap (a*b)) (q:=2039) (by decide);exact⟨this.1,this.2.1⟩
def bVi (ix vs:List Int)(k:Nat):R64 ((List.range k).foldl (λo (i:Nat)=>lZ o (fJ (vs.getD i 0) (Ga ix (i:Int) 0))) 1):=by
 cases k with
 |zero=>exact cDe
 |succ k=>rw[dg,eR];have:=bX0 ((List.range k).foldl (λo (i:Nat)=>lZ o (fJ (vs.getD i 0) (Ga ix (i:Int) 0))) 1) (fJ (vs.getD k 0) (Ga ix (k:Int) 0));exact aIb (by simp only[cU,fW];omega) (by simp only[cU,fW];omega)
def Vr {l:List Int}{i:Nat}(h:i<l.length):l.getD i 0=l[i]:=by simp[List.getD,ab h]
set_option maxRecDepth 100000 in
def cE5 (a b c:Int)(w:World):Calls Tryz.prog 58 #[.int .i64 a, .int .i64 b, .int .i64 c] w λe w'=>e= .returned (.bool (bG a b c))/\w'=w:=by
 by_cases h1:b<=a
 ·by_cases h2:a<=c
  ·go_enter Tryz.func58,Tryz.ntmps58
   go_wp2
   go_ret
   exact⟨by unfold bG;rw[au h1,au h2];rfl,rfl⟩
  ·go_enter Tryz.func58,Tryz.ntmps58
   go_wp2
   go_ret
   exact⟨by unfold bG;rw[au h1,ay (show ¬a<=c by omega)];rfl,rfl⟩
 ·go_enter Tryz.func58,Tryz.ntmps58
  go_wp2
  go_ret
  exact⟨by unfold bG;rw[ay (show ¬b<=a by omega)];rfl,rfl⟩
def bFy (a:Addr)(j:Nat):(a.add j).block=a.block:=by unfold Addr.add;split<;>rfl
def bFz {ix vs:List Int}{n k:Nat}(h1:ix.length=n)(h2:vs.length=n)(hk:k<ix.length)(h:rD ix vs k ix[k]=true):nM ix vs=(0,false):=by unfold nM;rw[show eF (rD ix vs) 0 ix=true from(bDz ix 0).2 ⟨k,hk,by rw[co];exact h⟩,Bool.or_true];rfl
def bRj {p:Nat->Int->Bool}{l:List Int}{i:Nat}(hi:i<l.length)(h:eF p 0 (l.take i)=false)(h2:p (0+i) l[i]=false):eF p 0 (l.take (i+1))=false:=by
 rw[iw,Ne,bDz] at h ⊢;rintro⟨k,hk,e⟩;rw[bu] at hk;rw[fS] at e;by_cases a:k<i
 ·exact h ⟨k,by rw[bu];omega,by rw[fS];exact e⟩
 ·have:k=i:=by omega
  subst this;rw[h2] at e;cases e
def bVj {ix vs:List Int}{n:Nat}(h1:ix.length=n)(h2:vs.length=n)(h0:0<n)(h:eF (rD ix vs) 0 (ix.take n)=false):nM ix vs=((List.range n).foldl (λo (i:Nat)=>lZ o (fJ (vs.getD i 0) (Ga ix (i:Int) 0))) 1,true):=by rw[<-h1,cG] at h;unfold nM bNq;rw[h,h1,h2,dh,cf.2 (show n≠0 by omega)];rfl
def own_below {w w':World}{b n:Nat}{D:DataW Unit}(h:w.ownsMap Tryz.prog 3 (plainElem Tryz.prog 4) b n D)(hb:Below w.heap.size w w'):w'.ownsMap Tryz.prog 3 (plainElem Tryz.prog 4) b n D:=by have a:=h.lt;obtain⟨es,clock,c,d,e,f⟩:=h;exact⟨es,clock,(hb.block b a).trans c,d,e,f⟩
def bOt (x:Int):WideAt.IsKeyLit (.int .i64 x):=by first|trivial|exact rfl|simp[WideAt.IsKeyLit]
def bVk {H:Type}{ix:List Int}(j:Nat):IsMap (aAq (H:=H) ix j):=(tidy_setOf _ _ (λx a=>by obtain⟨y,_,rfl⟩:=cq.1 a;exact bOt y)).isMap
def bX1 {H:Type}{ix:List Int}:∀{k:Nat} (hk:k<ix.length),(aAq (H:=H) ix k).atKey (.int .i64 ix[k]) (.lit (.bool false))= .lit (.bool (Te (λq=>q) ix k ix[k])):=by
 intro k hk;have key:∀j,j<=k->(aAq (H:=H) ix j).atKey (.int .i64 ix[k]) (.lit (.bool false))= .lit (.bool ((ix.take j).any λq=>q==ix[k])):=by
  intro j;induction j with
  |zero=>intro _;rw[aYi];rfl
  |succ j a=>
   intro hj;rw[aYj (show j<ix.length by omega),db,ab (show j<ix.length by omega),gz];simp only[du,List.any_cons,List.any_nil,gn];by_cases he:ix[j]=ix[k]
   ·rw[he,atKey_put_same (bVk j) (bOt _),dh,Bool.or_true]
   ·rw[atKey_put_other (by simpa using λh=>he h.symm),a (by omega),cf.2 he,gn]
 exact key k (ak _)
def bMe {v:Value}{x:Bool}{ps:List MemPlace}(hv:plainElem (H:=Unit) Tryz.prog 4 v=some (.lit (.bool x),ps)):v= .bool x:=by
 have a:Tryz.prog.underlying 4=some .bool:=Tryz.underlying4;unfold plainElem at hv;split at hv
 ·simp only[ai,cN,DataW.lit.injEq,Lit.bool.injEq] at hv;rw[hv.1]
 ·rename_i e;rw[a] at e;cases e
 ·rename_i e;rw[a] at e;cases e
 ·cases hv
def bRk {wr:World}{b n:Nat}{ix:List Int}{k:Nat}(hown:wr.ownsMap Tryz.prog 3 (plainElem Tryz.prog 4) b n (aAq (H:=Unit) ix k))(hk:k<ix.length)(d:(Lit.int .i64 ix[k]).wf=true):
  (Instr.lookup 338 (.map (some b)) (.int .i64 ix[k]) false).run Tryz.prog wr= .ok (.bool (Te (λq=>q) ix k ix[k])) wr:=by
 have a:keyOf Tryz.prog 3 (.int .i64 ix[k])=some (.int .i64 ix[k]):=keyOf_int_mk Tryz.underlying3 d;have f:(zeroValue 4).run Tryz.prog wr= .ok (.bool false) wr:=by kernel_rfl
 obtain⟨v,ps,c,hv⟩:=hown.lookup bYo Tryz.underlying338 f (plainElem_bool Tryz.underlying4 false) a;have e:(aAq (H:=Unit) ix k).atKey (.int .i64 ix[k]) (.lit (.bool false))= .lit (.bool (Te (λq=>q) ix k ix[k])):=bX1 hk;rw[e] at hv;have:v= .bool (Te (λq=>q) ix k ix[k]):=bMe hv;rw[<-this];exact c
set_option maxRecDepth 100000 in
set_option maxHeartbeats 8000000 in
def cBq (hGE:∀(a:Int) (w:World),R64 a->G0.G w->Calls Tryz.prog 373 #[.int .i64 a] w λe w'=>e= .returned (.bool (oO a))/\Below w.heap.size w w')
  (hPG:∀(a b:Int) (w:World),R64 a->R64 b->G0.G w->Calls Tryz.prog 370 #[.int .i64 a, .int .i64 b] w λe w'=>e= .returned (.int .i64 (fJ a b))/\Below w.heap.size w w')
  (hMG:∀(a b:Int) (w:World),R64 a->R64 b->G0.G w->Calls Tryz.prog 374 #[.int .i64 a, .int .i64 b] w λe w'=>e= .returned (.int .i64 (lZ a b))/\Below w.heap.size w w')
  (a1 a2:Addr) (n c1 c2:Nat) (hn:0<n) (hn2:n<=34359738368) (ix vs:List Int) (hl1:ix.length=n) (hl2:vs.length=n) (w:World) (hG:G0.G w) (hr1:∀x∈ix,R64 x) (hr2:∀x∈vs,R64 x) (hb1:a1.block<w.heap.size) (hb2:a2.block<w.heap.size)
  (hLW:∀(k:Int) (wr:World),R64 k->G0.G wr->Below w.heap.size w wr->Calls Tryz.prog 375 #[.slice (some a1) n c1, .int .i64 k, .int .i64 0] wr λe w'=>e= .returned (.int .i64 (Ga ix k 0))/\Below wr.heap.size wr w')
  (hc1:∀j,j<n->w.cell? (a1.add j)=some (.int .i64 (ix.getD j 0))) (hc2:∀j,j<n->w.cell? (a2.add j)=some (.int .i64 (vs.getD j 0))):
  Calls Tryz.prog 318 #[.slice (some a1) n c1, .slice (some a2) n c2] w λe w'=>e= .returned (.tuple #[.int .i64 (nM ix vs).1, .bool (nM ix vs).2])/\Below w.heap.size w w':=by
 have hmm:= @run_makeMap Tryz.prog
 go_enter Tryz.func318,Tryz.ntmps318
 go_wp2
 have hz0:((n:Int)==0)=false:=cf.2 (by omega);simp only[hz0]
 go_loopw [25] (λi wr=>∃k:Nat,k<=n/\i= .int .i64 k/\wr.ownsMap Tryz.prog 3 (plainElem Tryz.prog 4) w.heap.size k (aAq (H:=Unit) ix k)/\Below w.heap.size w wr/\eF (rD ix vs) 0 (ix.take k)=false)
  (λi _=>n-(intOf i).toNat)
 case atStart=>exact⟨0,ct _,rfl,by rw[aYi];exact World.ownsMap_made _ _ _ _,(Below.refl _ _).alloc (ak _) _,rfl⟩
 case round=>
  obtain⟨k,hk,rfl,hown,hnx,hno⟩:=hrel;by_cases hkn:k<n
  ·have hk1:k<ix.length:=by omega
   have hk2:k<vs.length:=by omega
   have hcx:wr.cell? (a1.add k)=some (.int .i64 ix[k]):=(hnx.cell (by rw[bFy];exact hb1)).trans ((hc1 k hkn).trans (by rw[Vr hk1]));have hcy:wr.cell? (a2.add k)=some (.int .i64 vs[k]):=(hnx.cell (by rw[bFy];exact hb2)).trans ((hc2 k hkn).trans (by rw[Vr hk2]));have hwx:=cE4 (hr1 _ (cp hk1));have hrun:=bRk hown hk1 hwx;have hGr:G0.G wr:=G0.st w wr hG hnx
   go_wp2_with fail
   go_call (cE5 _ _ _ _) as e w' ⟨he,hw⟩
   subst he;subst hw;cases hir:bG ix[k] 1 7 with
   |false=>
    go_wp2_with fail
    go_ret2
    exact⟨by rw[bFz hl1 hl2 hk1 (by unfold rD;rw[hir];rfl)];rfl,hnx⟩
   |true=>
    cases hd:Te (λq=>q) ix k ix[k] with
    |true=>
     rw[hd] at hrun
     go_wp2_with fail
     go_ret2
     exact⟨by rw[bFz hl1 hl2 hk1 (by unfold rD;rw[hd];simp)];rfl,hnx⟩
    |false=>
     rw[hd] at hrun
     go_wp2_with fail
     go_call (hGE vs[k] _ (hr2 _ (cp hk2)) hGr) as e w2 ⟨he,hbw⟩
     subst he;cases hge:oO vs[k] with
     |false=>
      go_wp2_with fail
      go_ret2
      exact⟨by rw[bFz hl1 hl2 hk1 (by unfold rD;rw[Vr hk2,hge];simp)];rfl,Below.trans hnx (Below.mono hbw hnx.size)⟩
     |true=>
      have hown2:=own_below hown hbw;have hkey:keyOf Tryz.prog 3 (.int .i64 ix[k])=some (.int .i64 ix[k]):=keyOf_int_mk Tryz.underlying3 hwx
      go_wp2_with (first
       |(at_mapUpdate;refine wpList_mapUpdate_own _ rfl _ _ _ 338 rfl 3 4 bYo Tryz.underlying338 (plainElem (H:=Unit) Tryz.prog 4) w.heap.size k _ rfl hown2 (by unfold maxLen;omega) _ _ _ rfl rfl hkey _ [] (plainElem_bool Tryz.underlying4 true) ?_;intro w1 hown1 hgrow1)
       |fail)
      go_roundw
      case rel=>
       have hb3:=Below.trans hnx (Below.mono hbw hnx.size);refine⟨k+1,by omega,by go_num,(aYj hk1).symm▸hown1,hb3.grown hgrow1 hb3.size (λj hj=>by cases hj;exact ak _),bRj hk1 hno (by unfold rD;rw[co,Vr hk2,hge,hir,hd];rfl)⟩
      case measure=>simp[intOf];omega
  ·have hkn2:k=n:=by omega
   subst hkn2
   go_wp2_with fail
   go_loopw [9,51] (λo i wr=>∃k':Nat,k'<=k/\i= .int .i64 k'/\o= .int .i64 ((List.range k').foldl (λo (i:Nat)=>lZ o (fJ (vs.getD i 0) (Ga ix (i:Int) 0))) 1)/\Below w.heap.size w wr)
    (λ_ i _=>k-(intOf i).toNat)
   case atStart=>exact⟨0,ct _,rfl,rfl,hnx⟩
   case round=>
    obtain⟨k',hk',rfl,rfl,hnx'⟩:=hrel;by_cases hkn':k'<k
    ·have hk2:k'<vs.length:=by omega
     have hcy:wr.cell? (a2.add k')=some (.int .i64 vs[k']):=(hnx'.cell (by rw[bFy];exact hb2)).trans ((hc2 k' hkn').trans (by rw[Vr hk2]));have hG1:G0.G wr:=G0.st w wr hG hnx'
     go_wp2_with fail
     go_call (hLW (k':Int) _ (bXy (by omega)) hG1 hnx') as e w2 ⟨he,hbw⟩
     subst he;have hn2:=Below.trans hnx' (Below.mono hbw hnx'.size);have hG2:G0.G w2:=G0.st w w2 hG hn2
     go_wp2_with fail
     go_call (hPG vs[k'] (Ga ix (k':Int) 0) _ (hr2 _ (cp hk2)) (cBp _ _ _) hG2) as e w3 ⟨he,hbw3⟩
     subst he;have hn3:=Below.trans hn2 (Below.mono hbw3 hn2.size);have hG3:G0.G w3:=G0.st w w3 hG hn3
     go_wp2_with fail
     go_call (hMG _ _ _ (bVi _ _ _) (bXz _ _) hG3) as e w4 ⟨he,hbw4⟩
     subst he;have hn4:=Below.trans hn3 (Below.mono hbw4 hn3.size)
     go_wp2_with fail
     go_roundw
     case rel=>exact⟨k'+1,by omega,by go_num,by rw[dg,eR];simp[List.getD,ab hk2],hn4⟩
     case measure=>simp[intOf];omega
    ·have hkk:k'=k:=by omega
     subst hkk
     go_wp2_with fail
     go_ret2
     exact⟨by rw[bVj hl1 hl2 hn hno];rfl,hnx'⟩
set_option maxRecDepth 100000 in
set_option maxHeartbeats 8000000 in
def bMf (A1 A2:Option Addr)(n1 n2 c1 c2:Nat)(h:n1≠n2\/n1=0)(w:World):Calls Tryz.prog 318 #[.slice A1 n1 c1, .slice A2 n2 c2] w λe w'=>e= .returned (.tuple #[.int .i64 0, .bool false])/\Below w.heap.size w w':=by
 by_cases h0:n1=n2
 ·have h1:n1=0:=by omega
  subst h1;subst h0
  go_enter Tryz.func318,Tryz.ntmps318
  go_wp2_with fail
  go_ret2
  exact⟨rfl,Below.refl _ _⟩
 ·have hne:((n1:Int) !=(n2:Int))=true:=by simp;omega
  go_enter Tryz.func318,Tryz.ntmps318
  go_wp2_with fail
  all_goals first
   |(go_ret2;exact⟨rfl,Below.refl _ _⟩)
   |(exfalso;omega)
def cDf {w:World}{X:Nat->Prop}{v:Value}{es:List (List V)}(h:Rd w X [] v (.slice 1 es))(h0:0<es.length):
  ∃a c,v= .slice (some a) es.length c/\a.block<w.heap.size/\∀(i:Nat) (e:List V) (d:V),es[i]? =some e->e[0]? =some d->∃u,w.cell? (a.add i)=some u/\Rd w X [] u d:=by
 cases h with
 |slice0 hc=>simp at h0
 |slice hn hpos hc hm hX hb hk hcell hrd=>
  subst hn;refine⟨_,_,rfl,hb,λi e d h1 h2=>⟨_,?_,hrd i 0 e d h1 h2⟩⟩
  have:=hcell i 0 e d h1 h2;simpa using this
def bOu {w:World}{X:Nat->Prop}{v:Value}{l:List Int}(h:Rd w X [] v (.slice 1 (l.map iV)))(h0:0<l.length):
  ∃a c,v= .slice (some a) l.length c/\a.block<w.heap.size/\(∀j,j<l.length->w.cell? (a.add j)=some (.int .i64 (l.getD j 0)))/\∀x∈l,R64 x:=by
 obtain⟨a,c,b,d,e⟩:=cDf h (by simpa using h0);rw[bf] at b;have key:∀j (hj:j<l.length),w.cell? (a.add j)=some (.int .i64 l[j])/\R64 l[j]:=λj hj=>by
  obtain⟨u,h1,h2⟩:=e j (iV l[j]) (.int .i64 l[j]) (by rw[bq,ab hj];rfl) rfl;obtain⟨rfl,f,i⟩:=h2.aAR;exact⟨h1,f,i⟩
 refine⟨a,c,b,d,λj hj=>by rw[Vr hj];exact(key j hj).1,λx k=> ?_⟩;obtain⟨j,hj,rfl⟩:=de.1 k;exact(key j hj).2
def bRl (J:∀args w,(callFunc 318 args).run Tryz.prog w= .ok (.enter 318 args) w)
  (sGE:∀a:Int,Spec Tryz.prog G0 373 [.int .i64 a] (λr=>r= .bool (oO a))) (sPG:∀a b:Int,Spec Tryz.prog G0 370 [.int .i64 a, .int .i64 b] (λr=>r= .int .i64 (fJ a b)))
  (sMG:∀a b:Int,Spec Tryz.prog G0 374 [.int .i64 a, .int .i64 b] (λr=>r= .int .i64 (lZ a b)))
  (sLW:∀(l:List Int) (k a:Int),l.length<=34359738368->Spec Tryz.prog G0 375 [.slice 1 (l.map iV), .int .i64 k, .int .i64 a] (λr=>r= .int .i64 (Ga l k a)))
  (ix vs:List Int) (h:ix.length<=34359738368/\vs.length<=34359738368):Spec Tryz.prog G0 318 [.slice 1 (ix.map iV), .slice 1 (vs.map iV)] (λr=>r= .tup [.int .i64 (nM ix vs).1, .bool (nM ix vs).2]):=by
 refine⟨J,λw X0 vals K A t=> ?_⟩;obtain⟨v,u,rfl⟩:∃v u,vals=[v,u]:=by
  match vals,t.1 with
  |[v,u],_=>exact⟨v,u,rfl⟩
 have B:=t.2 0 v _ rfl rfl;have H:=t.2 1 u _ rfl rfl;have one:∀{f:FuncId} {a:Int} {q:V} (hs:Spec Tryz.prog G0 f [.int .i64 a] (λr=>r=q)) (w:World),R64 a->G0.G w->Calls Tryz.prog f #[.int .i64 a] w λe w'=>∃x,e= .returned x/\Rd w' (λ_=>False) [] x q/\Ext w w':=λ{f a q} hs w o hg=>
  (hs.2 w (λ_=>False) [.int .i64 a] hg (λ_ h=>h.elim) ⟨rfl,λi v c p q=>by
   match i with
   |0=>simp at p q;subst p;subst q;exact .int o.1 o.2
   |i+1=>simp at p⟩).mono (λe w' ⟨x,r,d,m,s,y⟩=>⟨x,d,by rw[<-m];exact s,y⟩)
 have two:∀{f:FuncId} {a b:Int} {q:V} (hs:Spec Tryz.prog G0 f [.int .i64 a, .int .i64 b] (λr=>r=q)) (w:World),R64 a->R64 b->G0.G w->Calls Tryz.prog f #[.int .i64 a, .int .i64 b] w λe w'=>∃x,e= .returned x/\Rd w' (λ_=>False) [] x q/\Ext w w':=λ{f a b q} hs w o hb hg=>
  (hs.2 w (λ_=>False) [.int .i64 a, .int .i64 b] hg (λ_ h=>h.elim) ⟨rfl,λi v c p q=>by
   match i with
   |0=>simp at p q;subst p;subst q;exact .int o.1 o.2
   |1=>simp at p q;subst p;subst q;exact .int hb.1 hb.2
   |i+2=>simp at p⟩).mono (λe w' ⟨x,r,d,m,s,y⟩=>⟨x,d,by rw[<-m];exact s,y⟩)
 have fin:∀{w':World} (n:Int) (b:Bool),R64 n->Rd w' X0 [] (.tuple #[.int .i64 n, .bool b]) (.tup [.int .i64 n, .bool b]):=λ{w'} n b hn=>
  .tup rfl (λi v c p q=>by
   match i with
   |0=>simp at p q;subst p;subst q;exact .int hn.1 hn.2
   |1=>simp at p q;subst p;subst q;exact .bool
   |i+2=>simp at p)
 by_cases hs:ix.length≠vs.length\/ix.length=0
 ·obtain⟨L,z,rfl,_⟩:=B.aAZ;obtain⟨M,D,rfl,_⟩:=H.aAZ;rw[bf,bf];have hc:nM ix vs=(0,false):=by
   unfold nM;have:(!(ix.length==vs.length)||ix.length==0)=true:=by
    rcases hs with hs|hs
    ·rw[cf.2 hs];rfl
    ·rw[hs];simp
   rw[this];rfl
  rw[hc];exact(bMf L M _ _ z D hs w).mono (λe w' ⟨d,m⟩=>⟨_,_,d,rfl,fin 0 false (aIb (by decide) (by decide)),m⟩)
 ·have hl:ix.length=vs.length/\0<ix.length:=by omega
  obtain⟨I,z,rfl,b1,N,O⟩:=bOu B hl.2;obtain⟨Q,D,rfl,d1,d2,d3⟩:=bOu H (by omega);rw[<-hl.1];have F:R64 (nM ix vs).1:=by
   unfold nM;cases(!(ix.length==vs.length)||ix.length==0)||eF (rD ix vs) 0 ix with
   |true=>exact bVg
   |false=>exact bVi ix vs _
  refine(cBq (λa w o hg=>(one (sGE a) w o hg).mono (λe w' ⟨x,d,m,s⟩=>⟨by rw[d,m.aAW],s⟩)) (λa b w o hb hg=>(two (sPG a b) w o hb hg).mono (λe w' ⟨x,d,m,s⟩=>⟨by rw[d,m.aAR.1],s⟩)) (λa b w o hb hg=>(two (sMG a b) w o hb hg).mono (λe w' ⟨x,d,m,s⟩=>⟨by rw[d,m.aAR.1],s⟩))
   I Q ix.length z D hl.2 h.1 ix vs rfl hl.1.symm w K O d3 b1 d1 (λk wr hk hg hb=> ?_) N (λj hj=>d2 j (by omega))).mono (λe w' ⟨d,m⟩=>⟨_,_,d,rfl,fin _ _ F,m⟩)
  refine((sLW ix k 0 h.1).2 wr X0 [.slice (some I) ix.length z, .int .i64 k, .int .i64 0] hg (λb hb'=>bz (A b hb') hb.size) ⟨rfl,λi v c p q=> ?_⟩).mono (λe w' ⟨x,r,d,m,s,y⟩=>⟨by subst m;rw[d,s.aAR.1],y⟩)
  match i with
  |0=>simp at p q;subst p;subst q;exact B.ext hb
  |1=>simp at p q;subst p;subst q;exact .int hk.1 hk.2
  |2=>simp at p q;subst p;subst q;exact .int (by decide) (by decide)
  |i+3=>simp at p
end Go.VK
