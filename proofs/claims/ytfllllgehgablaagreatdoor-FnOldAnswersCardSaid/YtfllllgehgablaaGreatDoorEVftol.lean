import Derived.Test.YtfllllgehgablaaGreatDoorEVatoe
/-
  THE EVALUATOR's KIT, sixth part: the operations that only compute or read, by the value kit's rules. Plain theorems over any program; the conditions stand in each.
-/
set_option linter.all false
namespace Go.EV
open Go.RowKit Go.VK
def kzB:Value->Kz->Bool
 | .int k n, .int k'=>decide (k=k')&&decide (n=0)&&decide (k.min<=0)&&decide (0<=k.max)
 | .bool b, .bool=> !b
 | .string s, .str=>Nat.beq s.data.size 0
 | .slice none 0 0, .nil=>true
 |_,_=>false
def aWc:List Value->List Kz->Bool
 |[],[]=>true
 |v::vs,z::zs=>kzB v z&&aWc vs zs
 |_,_=>false
def fsB (P:Program)(t:Nat):Nat->List (Nat×Nat×Nat)->Bool
 |_,[]=>true
 |f,(off,ft,n)::l=>(bC6 P t f off&&bAf P t f ft off&&(match P.info? ft with|some j=>j.size==n|none=>false))&&fsB P t (f+1) l
def aQs:List (Nat×Nat)->List (Nat×Nat×Nat)->Bool
 |[],[]=>true
 |(a,b)::l,(off,_,n)::l'=>Nat.beq a off&&Nat.beq b n&&aQs l l'
 |_,_=>false
def arB (P:Program)(t k:Nat):Bool:=match P.underlying t with
 |some (.array n e)=>Nat.beq n k&&(match P.info? e with|some j=>Nat.beq j.size 1|none=>false)
 |_=>false
def bHg {P:Program}{t k j:Nat}{w:World}(h:arB P t k=true)(hj:j<k)(ad:Addr)(kk:IntKind):(Instr.indexAt t (.pointer (some ad)) (.int kk (j:Int))).run P w= .ok (.pointer (some (ad.add j))) w:=by
 unfold arB at h
 cases hu:P.underlying t with
 |none=>simp[hu] at h
 |some d=>
  cases d<;>simp[hu] at h
  rename_i n e
  obtain⟨h1,h2⟩:=h
  cases hi:P.info? e with
  |none=>simp[hi] at h2
  |some i=>
   simp[hi] at h2
   subst h1
   simp[Instr.indexAt,asIntOf,run_underlying hu,Instr.sureAddr,sizeOf,typeInfo,hi,h2,hj]
def Bi (P:Program)(f:Field):Bool:=match P.underlying f.type with
 |some (.int _)=>true
 |some .bool=>true
 |some .string=>true
 |_=>false
def Gy (P:Program)(t:Nat):Bool:=match P.underlying t with
 |some (.int _)=>true
 |some .bool=>true
 |some .string=>true
 |some (.struct fds)=>fds.toList.all (Bi P)
 |_=>false
def bK9 (P:Program)(t:Nat):Bool:=match P.underlying t with
 |some (.struct fds)=> !(fds.toList.all λf=>Gy P f.type)||(!P.eqGuardType P.depth t&&(!P.stoodInHeld t&&fds.toList.all λf=>f.name != "_"))
 |_=>true
def tiB (P:Program)(t:Nat)(i:TInfo):Bool:=
 (match i.u with
 | .int k=>(match P.underlying t with|some (.int k')=>decide (k'=k)|_=>false)&&Kn P t&&Nat.beq i.k 1
 | .bool=>(match P.underlying t with|some .bool=>true|_=>false)&&Kn P t&&Nat.beq i.k 1
 | .str=>(match P.underlying t with|some .string=>true|_=>false)&&Kn P t&&Nat.beq i.k 1
 | .sl e ek eb=>slB P t e ek eb&&Kn P t&&Nat.beq i.k 1
 | .st fs=>(aZ9 P t i.k&&bK9 P t)&&fsB P t 0 fs&&(match fs with|[]=>arB P t i.k|_=>(match aG4 P t with|some l=>aQs l fs|none=>false)))&&
 (match P.info? t with|some j=>(match j.zero with|some z=>aWc z.cells.toList i.z|none=>false)|none=>false)
def oO (P:Program)(TI:List (Nat×TInfo)):Bool:=TI.all λx=>tiB P x.1 x.2
section
variable {P:Program} {TI:List (Nat×TInfo)}
def bP (h:oO P TI=true){t:Nat}{i:TInfo}(hf:iE TI t=some i):tiB P t i=true:=by
 have:=cG.1 h _ (aGi hf);exact this
def Kv {t:Nat}{i:TInfo}{k:IntKind}(h:tiB P t i=true)(hu:i.u= .int k):P.underlying t=some (.int k)/\Kn P t=true/\i.k=1:=by
 simp only[tiB,hu,aa] at h
 obtain⟨⟨⟨h1,h2⟩,h3⟩,_⟩:=h
 refine⟨?_,h2,ah h3⟩
 cases hp:P.underlying t with
 |none=>simp[hp] at h1
 |some d=>cases d<;>simp[hp] at h1;subst h1;rfl
def A7 {t:Nat}{i:TInfo}(h:tiB P t i=true)(hu:i.u= .bool):P.underlying t=some .bool/\Kn P t=true/\i.k=1:=by
 simp only[tiB,hu,aa] at h
 obtain⟨⟨⟨h1,h2⟩,h3⟩,_⟩:=h
 refine⟨?_,h2,ah h3⟩
 cases hp:P.underlying t with
 |none=>simp[hp] at h1
 |some d=>cases d<;>simp[hp] at h1;rfl
def Fg {t:Nat}{i:TInfo}(h:tiB P t i=true)(hu:i.u= .str):P.underlying t=some .string/\Kn P t=true/\i.k=1:=by
 simp only[tiB,hu,aa] at h
 obtain⟨⟨⟨h1,h2⟩,h3⟩,_⟩:=h
 refine⟨?_,h2,ah h3⟩
 cases hp:P.underlying t with
 |none=>simp[hp] at h1
 |some d=>cases d<;>simp[hp] at h1;rfl
def yS {t:Nat}{i:TInfo}{e ek eb:Nat}(h:tiB P t i=true)(hu:i.u= .sl e ek eb):slB P t e ek eb=true/\Kn P t=true/\i.k=1:=by
 simp only[tiB,hu,aa] at h
 exact⟨h.1.1.1,h.1.1.2,ah h.1.2⟩
def A8 {t:Nat}{i:TInfo}{fs:List (Nat×Nat×Nat)}(h:tiB P t i=true)(hu:i.u= .st fs):aZ9 P t i.k=true/\fsB P t 0 fs=true/\((fs≠[]/\∃l,aG4 P t=some l/\aQs l fs=true)\/(fs=[]/\arB P t i.k=true)):=by
 simp only[tiB,hu,aa] at h
 refine⟨h.1.1.1.1,h.1.1.2,?_⟩
 cases fs with
 |nil=>exact .inr ⟨rfl,h.1.2⟩
 |cons x xs=>
  have h2:=h.1.2
  cases hp:aG4 P t with
  |none=>simp only[hp] at h2;cases h2
  |some l=>simp only[hp] at h2;exact .inl ⟨by simp,l,rfl,h2⟩
def bNc {t:Nat}{i:TInfo}{fs:List (Nat×Nat×Nat)}(h:tiB P t i=true)(hu:i.u= .st fs):bK9 P t=true:=by
 simp only[tiB,hu,aa] at h
 exact h.1.1.1.2
def aGk {t:Nat}{i:TInfo}(h:tiB P t i=true):∃j z,P.info? t=some j/\j.zero=some z/\aWc z.cells.toList i.z=true:=by
 simp only[tiB,aa] at h
 have h:=h.2
 cases hj:P.info? t with
 |none=>simp[hj] at h
 |some j=>
  cases hz:j.zero with
  |none=>simp[hj,hz] at h
  |some z=>simp only[hj,hz] at h;exact⟨j,z,rfl,hz,h⟩
def aHl {t:Nat}:∀{fs:List (Nat×Nat×Nat)} {f n off ft k:Nat},fsB P t f fs=true->fs[n]? =some (off,ft,k)->bC6 P t (f+n) off=true/\bAf P t (f+n) ft off=true/\∃j,P.info? ft=some j/\j.size=k
 |[],f,n,off,ft,k,h,hn=>by simp at hn
 |(a,b,c)::fs,f,0,off,ft,k,h,hn=>by
  simp at hn
  obtain⟨rfl,rfl,rfl⟩:=hn
  simp only[fsB,aa] at h
  refine⟨h.1.1.1,h.1.1.2,?_⟩
  cases hj:P.info? b with
  |none=>simp[hj] at h
  |some j=>simp[hj] at h;exact⟨j,rfl,h.1.2⟩
 |(a,b,c)::fs,f,n+1,off,ft,k,h,hn=>by
  simp only[fsB,aa] at h
  have:=aHl (f:=f+1) (n:=n) h.2 (by simpa using hn)
  rw[show f+(n+1)=f+1+n by omega];exact this
end
variable {U:Uni} {Y:Lay U} {TI:List (Nat×TInfo)} {P:Program} {g:GI} {E:Env U g}
noncomputable def lv (m:Mm U)(fr:Bool)(x:Lf U):V:=match x with
 | .nil=> .nil
 |x=>bif fr&& !mR x then .any else match qA m x with
  |some y=>y.toV
  |none=> .any
noncomputable def vw (m:Mm U)(fr:Bool):Sv U->V
 | .l x=>lv m fr x
 | .a cs=> .agg (cs.map (lv m fr))
 | .t _=> .any
section
variable {C:Cod U} {s:St U} {a:Act} {w w':World} {β β':List Tr}
def aYr (H:Hp C E s.m β w){v:Value}{x:Lf U}(hm:x.mean C w (E.X β) β s.m v)(fr:Bool){Z:Nat->Prop}(hZ:∀b,Z b->fr=true/\E.X β b):Rd w Z [] v (lv s.m fr x):=by
 have go:Rd w Z [] v (bif fr&& !mR x then .any else match qA s.m x with|some y=>y.toV|none=> .any):=by
  cases fr with
  |false=>
   simp only[eL,ab]
   cases hr:qA s.m x with
   |none=>exact .any
   |some y=>exact(Bt H hm hr (λb hb=>(hZ b hb).2) (.inr λ_ _ b _ _ hb=>by cases(hZ b hb).1)).2
  |true=>
   cases hf:mR x with
   |false=>exact .any
   |true=>
    simp only[bf,dp,ab]
    cases hr:qA s.m x with
    |none=>exact .any
    |some y=>exact(Bt H hm hr (λb hb=>(hZ b hb).2) (.inl hf)).2
 cases x with
 |nil=>obtain rfl:=hm;exact .nil
 |_=>exact go
noncomputable def Zf (E:Env U g)(β:List Tr)(fr:Bool)(b:Nat):Prop:=fr=true/\E.X β b
noncomputable def brE (H:Hp C E s.m β w)(fr:Bool):VK.Env P g:=⟨Zf E β fr,w,λb hb=>H.aCB b hb.2,H.gw⟩
noncomputable def brS (s:St U)(fr:Bool):VK.S:=⟨s.t.map (vw s.m fr),[]⟩
def br (r:bE C E s a w β)(fr:Bool):RelB (brE (P:=P) r.hp fr) (brS s fr) [] a w where
 ext:=Ext.refl w
 defers:=r.defers
 tsz:=by simp[brS,r.tsz]
 tmps:=λn W hW=>by
  simp only[brS,bg] at hW
  cases hx:s.t[n]? with
  |none=>simp[hx] at hW
  |some x=>
   simp only[hx,cJ,ai] at hW
   subst hW
   have hm:=r.tm n x hx
   have hZ:∀b,(brE (P:=P) r.hp fr).X [] b->fr=true/\E.X β b:=λb hb=>by
    rcases hb with hb|⟨t,ht,_⟩
    ·exact hb
    ·simp at ht
   cases x with
   |l y=>exact aYr r.hp hm fr hZ
   |t xs=>exact .any
   |a cs=>
    obtain⟨vs,h1,h2,h3⟩:=hm
    rw[h1]
    refine .agg (by simp[h2]) (λi v c k1 k2=> ?_)
    rw[bg] at k2
    cases hc:cs[i]? with
    |none=>simp[hc] at k2
    |some c'=>
     simp only[hc,cJ,ai] at k2
     subst k2
     exact aYr r.hp (h3 i v c' (by simpa using k1) hc) fr hZ
 blen:=rfl
 new:=by simp
 dist:=by simp
 objs:=by simp[brS]
def bDo {E':VK.Env P g}{S:VK.S}{v:Value}{m:Mm U}{fr:Bool}:VK.Ev E' S (.const v) (vw m fr (aSz v)):=by
 have any:∀v,VK.Ev E' S (.const v) .any:=λv _ _ _ _=> .any
 unfold aSz
 split
 ·rename_i k n
  cases h:aSy k n with
  |false=>cases fr<;>exact any _
  |true=>
   simp only[ae,vw,lv,mR,bf,dp,ab,qA,Lf.toV]
   refine .i ?_
   simp only[aSy,aa,bp] at h
   simpa using h
 ·simp only[vw,lv,mR,bf,dp,ab,qA,Lf.toV];exact .b
 ·rename_i z
  cases h:Nat.ble (len z.data.toList) 1000 with
  |false=>cases fr<;>exact any _
  |true=>
   simp only[ae,vw,lv,mR,bf,dp,ab,qA,Lf.toV]
   refine .s ?_
   have:=bc h
   rw[bH,cx] at this
   exact ao (show z.size<=1000 from this)
 ·exact .n
 ·cases fr<;>exact any _
def aQt {E':VK.Env P g}{fr:Bool}{x:Operand}:VK.Ev E' (brS s fr) x (vw s.m fr (sG s x)):=by
 have any:∀x,VK.Ev E' (brS s fr) x .any:=λx _ _ _ _=> .any
 cases x with
 |tmp n=>
  simp only[sG,aR]
  cases h:s.t[n]? with
  |none=>cases fr<;>exact any _
  |some y=>exact .t (bJh (by simp[brS,h]))
 |const v=>exact bDo
 |_=>cases fr<;>exact any _
def aWd {X:Nat->Prop}{m:Mm U}{v:Value}:(aSz v:Sv U).mean C w X β m v:=by
 unfold aSz
 split
 ·rename_i k n
  cases h:aSy k n with
  |false=>trivial
  |true=>
   simp only[aSy,aa,bp] at h
   exact⟨rfl,h⟩
 ·rfl
 ·rename_i z
  cases h:Nat.ble (len z.data.toList) 1000 with
  |false=>trivial
  |true=>
   have:=bc h
   rw[bH,cx] at this
   refine⟨rfl,?_⟩
   have h2:z.size<=1000:=this
   unfold maxLen;omega
 ·rfl
 ·trivial
def iZ (r:bE C E s a w β){x:Operand}:(sG s x).mean C w (E.X β) β s.m (a.eval x):=by
 cases x with
 |tmp n=>
  simp only[sG,aR]
  cases h:s.t[n]? with
  |none=>trivial
  |some y=>exact r.tm n y h
 |const v=>exact aWd
 |_=>trivial
def vX (r:bE C E s a w β){x:Operand}:(dS s x).mean C w (E.X β) β s.m (a.eval x):=by
 have:=iZ r (x:=x)
 unfold dS
 cases h:sG s x with
 |l y=>rw[h] at this;exact bDn this
 |_=>rw[h] at this;exact this
def bJi:Lf U->Bool
 | .int .. =>true
 | .bool _=>true
 | .str _=>true
 |_=>false
def bDp {x:Operand}{y:Lf U}(h:dS s x= .l y)(hy:bJi y=true)(fr:Bool):vw s.m fr (sG s x)=y.toV:=by
 unfold dS at h
 cases ho:sG s x with
 |l z=>
  simp only[ho,Sv.l.injEq] at h
  simp only[vw]
  cases z with
  |nat a=>
   simp only[rsv,aR] at h
   cases hn:s.m.ns[a]? with
   |none=>simp only[hn] at h;subst h;cases hy
   |some p=>simp only[hn] at h;subst h;simp[lv,mR,qA,aR,hn]
  |lt a n=>
   simp only[rsv,aR] at h
   cases hn:s.m.ns[a]? with
   |none=>simp only[hn] at h;subst h;cases hy
   |some p=>simp only[hn] at h;subst h;simp[lv,mR,qA,aR,hn]
  |int k n=>simp only[rsv] at h;subst h;simp[lv,mR,qA]
  |bool b=>simp only[rsv] at h;subst h;simp[lv,mR,qA]
  |str b=>simp only[rsv] at h;subst h;simp[lv,mR,qA]
  |_=>simp only[rsv] at h;subst h;cases hy
 |_=>simp only[ho] at h;cases h
def aQu {E':VK.Env P g}{x:Operand}{y:Lf U}(h:dS s x= .l y)(hy:bJi y=true)(fr:Bool):VK.Ev E' (brS s fr) x y.toV:=by
 rw[<-bDp h hy fr];exact aQt
def dC {E':VK.Env P g}{x:Operand}{k:IntKind}{n:Int}(h:dS s x= .l (.int k n))(fr:Bool:=false):VK.Ev E' (brS s fr) x (.int k n):=aQu h rfl fr
def A9 {E':VK.Env P g}{x:Operand}{b:Bool}(h:dS s x= .l (.bool b))(fr:Bool:=false):VK.Ev E' (brS s fr) x (.bool b):=aQu h rfl fr
def vY {E':VK.Env P g}{x:Operand}{z:ByteArray}(h:dS s x= .l (.str z))(fr:Bool:=false):VK.Ev E' (brS s fr) x (.str z):=aQu h rfl fr
def bJj {E':VK.Env P g}{x:Operand}{p:Lf U}{τ:Nat}{l:List (U.El τ)}(h:dS s x= .l p)(hr:qA s.m p=some (.sl τ l)):VK.Ev E' (brS s false) x (.slice (U.K τ) (l.map (U.enc τ))):=by
 have hv:vw s.m false (sG s x)= .slice (U.K τ) (l.map (U.enc τ)):=by
  unfold dS at h
  cases ho:sG s x with
  |l z=>
   simp only[ho,Sv.l.injEq] at h
   simp only[vw]
   have:qA s.m z=some (.sl τ l)/\z≠ .nil:=by
    cases z with
    |nat a=>
     simp only[rsv,aR] at h
     cases hn:s.m.ns[a]? with
     |none=>simp only[hn] at h;subst h;cases hr
     |some q=>simp only[hn] at h;subst h;cases hr
    |lt a n=>
     simp only[rsv,aR] at h
     cases hn:s.m.ns[a]? with
     |none=>simp only[hn] at h;subst h;cases hr
     |some q=>simp only[hn] at h;subst h;cases hr
    |nil=>simp only[rsv] at h;subst h;cases hr
    |_=>simp only[rsv] at h;subst h;exact⟨hr,by simp⟩
   cases z with
   |nil=>exact absurd rfl this.2
   |_=>simp only[lv,eL,ab,this.1,Lf.toV]
  |_=>simp only[ho] at h;cases h
 rw[<-hv];exact aQt
def bNd {E':VK.Env P g}{x:Operand}{τ:Nat}{l:List (U.El τ)}(h:dS s x= .l (.sl τ l))(fr:Bool:=true):VK.Ev E' (brS s fr) x (.slice (U.K τ) (l.map (U.enc τ))):=by
 have hv:vw s.m fr (sG s x)= .slice (U.K τ) (l.map (U.enc τ)):=by
  unfold dS at h
  cases ho:sG s x with
  |l z=>
   simp only[ho,Sv.l.injEq] at h
   simp only[vw]
   cases z with
   |nat a=>simp only[rsv,aR] at h;cases hn:s.m.ns[a]? <;>simp[hn] at h
   |lt a n=>simp only[rsv,aR] at h;cases hn:s.m.ns[a]? <;>simp[hn] at h
   |sl τ' l'=>simp only[rsv] at h;rw[h];simp[lv,mR,qA,Lf.toV]
   |_=>simp only[rsv] at h;cases h
  |_=>simp only[ho] at h;cases h
 rw[<-hv];exact aQt
def MO (P:Program)(C:Cod U)(E:Env U g)(s:St U)(a:Act)(w:World)(β:List Tr)(op:Op)(x:Sv U):Prop:=
 ∀o:Oper,o.op=op->∃v,(∀w',Ext w w'->(execOp a.eval o).run P w'= .ok (.value v) w')/\x.mean C w (E.X β) β s.m v
def aS5 (r:bE C E s a w β)(fr:Bool){op:Op}{W:V}{x:Sv U}(h:∀E':VK.Env P g,yN E' (brS s fr) op W)(hx:∀v,Rd w (Zf E β fr) [] v W->x.mean C w (E.X β) β s.m v):MO P C E s a w β op x:=λo ho=>by
 obtain⟨v,h1,h2⟩:=h _ [] a w (br (P:=P) r fr) o ho
 refine⟨v,h1,hx v (h2.conv (aj _) (λb _ hb=> .inl hb) (λ_ _ _ h=>h) (λ_ _ h=>h))⟩
def bNe {k:IntKind}{n:Int}{X:Nat->Prop}{Z:Nat->Prop}{m:Mm U}{v:Value}(h:Rd w Z [] v (.int k n)):(Sv.l (.int k n):Sv U).mean C w X β m v:=h.aAO
def bLa {b:Bool}{X:Nat->Prop}{Z:Nat->Prop}{m:Mm U}{v:Value}(h:Rd w Z [] v (.bool b)):(Sv.l (.bool b):Sv U).mean C w X β m v:=h.aAW
def bJk {z:ByteArray}{X:Nat->Prop}{Z:Nat->Prop}{m:Mm U}{v:Value}(h:Rd w Z [] v (.str z)):(Sv.l (.str z):Sv U).mean C w X β m v:=h.aAT
end
end Go.EV

namespace Go.EV
open Go.RowKit Go.VK
variable {U:Uni} {Y:Lay U} {TI:List (Nat×TInfo)} {P:Program} {g:GI} {E:Env U g}
section
variable {C:Cod U} {s:St U} {m:Mm U} {a:Act} {w w':World} {β β':List Tr} {X:Nat->Prop}
def aN9 {i:TInfo}{cs:List (Lf U)}{off:Nat}{x:Sv U}(h:cut i cs off=some x):
  (∃fs ds,i.u= .st fs/\ds=(cs.drop off).take i.k/\ds.length=i.k/\x= .a ds)\/((∀fs,i.u≠ .st fs)/\∃y,cs[off]? =some y/\x= .l y):=by
 unfold cut at h
 split at h
 ·rename_i fs hu
  left
  simp only[aAm,aN7,bH] at h
  cases hb:Nat.beq ((cs.drop off).take i.k).length i.k with
  |false=>rw[hb] at h;cases h
  |true=>
   simp only[hb,ae,ai] at h
   exact⟨fs,_,hu,rfl,ah hb,h.symm⟩
 ·rename_i hu
  right
  refine⟨λfs he=>hu fs he,?_⟩
  rw[aR] at h
  cases hc:cs[off]? with
  |none=>simp[hc] at h
  |some y=>simp only[hc,ai] at h;exact⟨y,rfl,h.symm⟩
def bDq {t:Nat}{i:TInfo}(h:tiB P t i=true)(hu:∀fs,i.u≠ .st fs):Kn P t=true/\i.k=1:=by
 cases hi:i.u with
 |int k=>have:=Kv h hi;exact this.2
 |bool=>have:=A7 h hi;exact this.2
 |str=>have:=Fg h hi;exact this.2
 |sl e ek eb=>have:=yS h hi;exact this.2
 |st fs=>exact absurd hi (hu fs)
def add_zero' (p:Addr):p.add 0=p:=by simp[Addr.add]
def aAn {S:World->Prop}{t:Nat}{i:TInfo}{p:Addr}{vs:List Value}{cs:List (Lf U)}{off:Nat}{x:Sv U}(hti:tiB P t i=true)(hc:cut i cs off=some x)(hM:Ms C w X β m vs (cs.drop off))
  (hcell:∀w',S w'->∀(j:Nat) (v:Value),vs[j]? =some v->w'.cell? (p.add j)=some v):
  ∃v,(∀w',S w'->(loadVar t p).run P w'= .ok v w')/\x.mean C w X β m v:=by
 rcases aN9 hc with⟨fs,ds,hu,h1,h2,rfl⟩|⟨hu,y,h1,rfl⟩
 ·have hag:=(A8 hti hu).1
  have hl:i.k<=vs.length:=by
   rw[hM.1,<-h2,h1,bz];exact Nat.min_le_right _ _
  have hvl:(vs.take i.k).length=i.k:=by rw[bz];omega
  refine⟨.agg (vs.take i.k).toArray,λw' he=> ?_,vs.take i.k,rfl,by rw[hvl,h2],λj v c h5 h6=> ?_⟩
  ·exact aDp (by rw[hvl];exact hag) (λj v hj=>hcell w' he j v (by rw[eJ] at hj;split at hj;exact hj;cases hj))
  ·rw[eJ] at h5
   split at h5
   ·rw[h1,eJ] at h6
    split at h6
    ·exact hM.2 j v c h5 h6
    ·exact absurd ‹j<i.k› ‹¬j<i.k›
   ·simp at h5
 ·have ho:=(bDq hti hu).1
  have h0:(cs.drop off)[0]? =some y:=by rw[eg];exact h1
  have hl:0<vs.length:=by rw[hM.1];exact lt_of_some h0
  have hv0:vs[0]? =some vs[0]:=ac hl
  refine⟨vs[0],λw' he=> ?_,hM.2 0 _ y hv0 h0⟩
  have:=hcell w' he 0 _ hv0
  rw[add_zero'] at this
  exact aDo ho this
def C8 {t:Nat}{i:TInfo}{p:Addr}{vs:List Value}{cs:List (Lf U)}{off:Nat}{x:Sv U}(hti:tiB P t i=true)(hc:cut i cs off=some x)(hM:Ms C w X β m vs (cs.drop off))
  (hcell:∀w',Ext w w'->∀(j:Nat) (v:Value),vs[j]? =some v->w'.cell? (p.add j)=some v):
  ∃v,(∀w',Ext w w'->(loadVar t p).run P w'= .ok v w')/\x.mean C w X β m v:=aAn (S:=Ext w) hti hc hM hcell
def Ms.drop {vs:List Value}{cs:List (Lf U)}(h:Ms C w X β m vs cs)(n:Nat):Ms C w X β m (vs.drop n) (cs.drop n):=
 ⟨by simp[h.1],λi v c h1 h2=>h.2 (n+i) v c (by simpa using h1) (by simpa using h2)⟩
def aS6 {T k n:Nat}{t:Tr}{xs xs':List Value}(h:w.ownsRow 0 T k t.val n xs)(h':w.ownsRow 0 T k t.val n xs'):xs=xs':=by
 rcases dO h with⟨c1,_,c3,_⟩|⟨b,cur,c1,_,_,_,c5,_,c7⟩
 ·rcases dO h' with⟨_,_,d3,_⟩|⟨b',cur',d1,_⟩
  ·rw[c3,d3]
  ·rw[c1] at d1;cases d1
 ·rcases dO h' with⟨d1,_⟩|⟨b',cur',d1,_,_,_,d5,_,d7⟩
  ·rw[c1] at d1;cases d1
  ·rw[c1] at d1;injection d1 with d1;subst d1
   rw[c5] at d5;injection d5 with d5;injection d5 with d5;subst d5
   rw[<-c7,<-d7]
def aQv {d:Bool}{τ n:Nat}{L:List (U.El τ)}{z:U.El τ}{xs:List Value}{B:List Nat}(h3:OwL C w X d xs (L.map (C.cel τ)).flatten B)(hz:L[n]? =some z):
  ∃(l1 l2:List (U.El τ)) (x1 xz x2:List Value) (B1 Bz B2:List Nat),L=l1++z::l2/\l1.length=n/\xs=x1++(xz++x2)/\x1.length=n*U.K τ/\xz.length=U.K τ/\B=B1++(Bz++B2)/\
   OwL C w X d x1 (l1.map (C.cel τ)).flatten B1/\OwL C w X d xz (C.cel τ z) Bz/\OwL C w X d x2 (l2.map (C.cel τ)).flatten B2:=by
 obtain⟨l1,l2,g1,g2,g3,g4⟩:=p9 (C.hlen τ) hz
 rw[g3] at h3
 obtain⟨x1,xr,B1,Br,e1,e2,o1,o2⟩:=OwL.split h3
 obtain⟨xz,x2,Bz,B2,e3,e4,o3,o4⟩:=OwL.split o2
 exact⟨l1,l2,x1,xz,x2,B1,Bz,B2,g1,g2,by rw[<-e3,<-e1],by rw[o1.len,g4],by rw[o3.len,C.hlen],by rw[<-e4,<-e2],o1,o3,o4⟩
def aQw (H:Hp C E m β w){i n:Nat}{t:Tr}{e:EO U}{τ:Nat}{d:Bool}{L:List (U.El τ)}{z:U.El τ}(hβ:β[i]? =some t)(ho:m.o[i]? =some e)(he:e.ob= .tree τ d L)(hz:L[n]? =some z):
  ∃(l1 l2:List (U.El τ)) (x1 xz x2:List Value) (B1 Bz B2:List Nat),L=l1++z::l2/\l1.length=n/\w.ownsRow 0 τ (U.K τ) t.val L.length (x1++(xz++x2))/\x1.length=n*U.K τ/\xz.length=U.K τ/\t.bs=B1++(Bz++B2)/\
   OwL C w (E.X β) d x1 (l1.map (C.cel τ)).flatten B1/\OwL C w (E.X β) d xz (C.cel τ z) Bz/\OwL C w (E.X β) d x2 (l2.map (C.cel τ)).flatten B2/\0<U.K τ:=by
 have hok:=H.ok i t e hβ ho
 rw[he] at hok
 obtain⟨h1,xs,h2,h3⟩:=hok
 obtain⟨l1,l2,x1,xz,x2,B1,Bz,B2,g1,g2,g3,g4,g5,g6,o1,o2,o3⟩:=aQv h3 hz
 exact⟨l1,l2,x1,xz,x2,B1,Bz,B2,g1,g2,g3▸h2,g4,g5,g6,o1,o2,o3,h1⟩
def aS7 {i c τ:Nat}{q:Int}{z:U.El τ}:∀(cs:List (Lf U)) (j0 j:Nat) (x:Lf U),(aEj i c τ q z j0 cs)[j]? =some x->∃y,cs[j]? =some y/\((∃τ' l,y= .sl τ' l/\x= .inn i c τ q z (j0+j) τ' l)\/((∀τ' l,y≠ .sl τ' l)/\x=y))
 |[],j0,j,x,h=>by simp[aEj] at h
 |y::cs,j0,0,x,h=>by
  refine⟨y,rfl,?_⟩
  cases y with
  |sl τ' l=>simp[aEj] at h;subst h;exact .inl ⟨τ',l,rfl,rfl⟩
  |_=>simp[aEj] at h;subst h;exact .inr ⟨by simp,rfl⟩
 |y::cs,j0,j+1,x,h=>by
  have h':(aEj i c τ q z (Nat.succ j0) cs)[j]? =some x:=by
   cases y<;>simpa[aEj] using h
  obtain⟨y',h1,h2⟩:=aS7 cs (Nat.succ j0) j x h'
  refine⟨y',by simpa using h1,?_⟩
  rw[show j0+(j+1)=Nat.succ j0+j by omega];exact h2
def aS8 {i c τ:Nat}{q:Int}{z:U.El τ}:∀(cs:List (Lf U)) (j0:Nat),(aEj i c τ q z j0 cs).length=cs.length
 |[],_=>rfl
 |y::cs,j0=>by cases y<;>simp[aEj,aS8 cs]
def OwL.at {d:Bool}:∀{vs:List Value} {xs:List (Lf U)} {B:List Nat},OwL C w X d vs xs B->∀(i:Nat) (v:Value) (x:Lf U),vs[i]? =some v->xs[i]? =some x->∃B',Ow C w X d v x B'/\∀b∈B',b∈B
 |_,_,_, .n,i,v,x,h,_=>by simp at h
 |_,_,_, .c h hr,i,v,x,h1,h2=>by
  cases i with
  |zero=>simp at h1 h2;subst h1;subst h2;exact⟨_,h,λb hb=>by simp[hb]⟩
  |succ i=>
   obtain⟨B',k1,k2⟩:=OwL.at hr i v x (by simpa using h1) (by simpa using h2)
   exact⟨B',k1,λb hb=>by simp[k2 b hb]⟩
def bAm (H:Hp C E m β w){i:Nat}{q:Int}{t:Tr}{e:EO U}{τ:Nat}{d:Bool}{L:List (U.El τ)}{z:U.El τ}(hβ:β[i]? =some t)(ho:m.o[i]? =some e)(he:e.ob= .tree τ d L)(h0:0<=q)(hz:L[q.toNat]? =some z):
  ∃xz:List Value,Ms C w (E.X β) β m xz (aEj i e.cv τ q z 0 (C.cel τ z))/\∀b,t.b=some b->∀(j:Nat) (v:Value),xz[j]? =some v->w.cell? (Addr.add ⟨b,0,none⟩ (q.toNat*U.K τ+j))=some v:=by
 obtain⟨l1,l2,x1,xz,x2,B1,Bz,B2,g1,g2,g3,g4,g5,g6,o1,o2,o3,_⟩:=aQw H hβ ho he hz
 have hx:∀(j:Nat) (v:Value),xz[j]? =some v->(x1++(xz++x2))[q.toNat*U.K τ+j]? =some v:=λj v hj=>by
  rw[<-g4,ay (db _ _),cP,aq (lt_of_some hj)];exact hj
 refine⟨xz,⟨by rw[aS8,o2.len],λj v x h1 h2=> ?_⟩,λb hb j v hj=>oN g3 hb (hx j v hj)⟩
 obtain⟨y,k1,k2⟩:=aS7 _ _ _ _ h2
 rw[ca] at k2
 obtain⟨B',k3,_⟩:=o2.at j v y h1 k1
 rcases k2 with⟨τ',l,rfl,rfl⟩|⟨k2,rfl⟩
 ·exact⟨⟨(H.vers i e ho).2,o2.ones v (az h1)⟩,e,t,ho,hβ,λ_=>⟨d,L,_,he,h0,hz,k1,g3,hx j v h1⟩⟩
 ·cases k3 with
  |int q1 q2=>exact⟨rfl,q1,q2⟩
  |bool=>rfl
  |str q=>exact⟨rfl,q⟩
  |fz=>exact absurd rfl (k2 _ _)
  |sl=>exact absurd rfl (k2 _ _)
  |su=>exact absurd rfl (k2 _ _)
def aYs (H:Hp C E m β w){i j τ':Nat}{q:Int}{t:Tr}{e:EO U}{τ:Nat}{L:List (U.El τ)}{z:U.El τ}{l:List (U.El τ')}{xs:List Value}{v:Value}(hβ:β[i]? =some t)(ho:m.o[i]? =some e)(he:e.ob= .tree τ true L)(hz:L[q.toNat]? =some z)
  (hj:(C.cel τ z)[j]? =some (.sl τ' l)) (hr:w.ownsRow 0 τ (U.K τ) t.val L.length xs) (hv:xs[q.toNat*U.K τ+j]? =some v):
  ∃(u:Tr) (ys:List Value),v=u.val/\w.ownsRow 0 τ' (U.K τ') u.val l.length ys/\OwL C w (E.X β) true ys (l.map (C.cel τ')).flatten u.bs/\∀b∈u.all,b∈t.all:=by
 obtain⟨l1,l2,x1,xz,x2,B1,Bz,B2,g1,g2,g3,g4,g5,g6,o1,o2,o3,_⟩:=aQw H hβ ho he hz
 have hjl:j<xz.length:=by rw[g5,<-C.hlen τ z];exact lt_of_some hj
 have hvz:xz[j]? =some v:=by
  rw[aS6 hr g3,<-g4,ay (db _ _),cP,aq hjl] at hv
  exact hv
 obtain⟨B',k3,k4⟩:=o2.at j v _ hvz hj
 cases k3 with
 |fz hd=>cases hd
 |su hd=>cases hd
 |sl u hk hown hc=>exact⟨u,_,rfl,hown,hc,λb hb=>by have:=k4 b hb;simp[Tr.all,g6,this]⟩
def bJl {u:Tr}{b n' c':Nat}(h:u.val= .slice (some ⟨b,0,none⟩) n' c'):u.b=some b:=by
 cases hb:u.b with
 |none=>simp[Tr.val,hb] at h
 |some k=>simp[Tr.val,hb] at h;rw[h.1]
def aS9 {i c:Nat}:∀(cs:List (Lf U)) (j:Nat) (x:Lf U),(aEk i c cs)[j]? =some x->∃y,cs[j]? =some y/\((∃τ l,y= .sl τ l/\x= .bor i c τ l)\/((∀τ l,y≠ .sl τ l)/\x=y))
 |[],j,x,h=>by simp[aEk] at h
 |y::cs,0,x,h=>by
  refine⟨y,rfl,?_⟩
  cases y with
  |sl τ l=>simp[aEk] at h;subst h;exact .inl ⟨τ,l,rfl,rfl⟩
  |_=>simp[aEk] at h;subst h;exact .inr ⟨by simp,rfl⟩
 |y::cs,j+1,x,h=>by
  have h':(aEk i c cs)[j]? =some x:=by cases y<;>simpa[aEk] using h
  obtain⟨y',h1,h2⟩:=aS9 cs j x h'
  exact⟨y',by simpa using h1,h2⟩
def aTa {i c:Nat}:∀(cs:List (Lf U)),(aEk i c cs).length=cs.length
 |[]=>rfl
 |y::cs=>by cases y<;>simp[aEk,aTa cs]
def Bu {i c:Nat}(h:okv m i c=true):∃e,m.o[i]? =some e/\e.cv=c:=by
 unfold okv at h
 rw[aR] at h
 cases he:m.o[i]? with
 |none=>simp[he] at h
 |some e=>simp only[he] at h;exact⟨e,rfl,ah h⟩
def aQx (r:bE C E s a w β){t k j i off:Nat}{y:Lf U}{v:Value}(kk:IntKind)(ha:arB P t k=true)(hj:j<k)(hm:(Lf.box i off:Lf U).mean C w (E.X β) β s.m v)(h:rR s.m j (.box i off)=some y):
  ∃v',(∀w':World,(Instr.indexAt t v (.int kk (j:Int))).run P w'= .ok v' w')/\y.mean C w (E.X β) β s.m v':=by
 simp only[rR,aR] at h
 obtain⟨_,e,tr,h1,h2,h3⟩:=hm
 simp only[h1] at h
 obtain⟨ob,rv,cv⟩:=e
 cases ob with
 |box T cs us=>
  simp only[ai] at h
  subst h
  obtain⟨b,h4,rfl⟩:=h3 rfl
  refine⟨_,λw'=>bHg ha hj _ kk,⟨rfl,⟨.box T cs us,rv,cv⟩,tr,h1,h2,λ_=>⟨b,h4,by rw[fC]⟩⟩⟩
 |_=>cases h
def C9 (r:bE C E s a w β){t f:Nat}{off:Nat}{x y:Lf U}{v:Value}(hf:bC6 P t f off=true)(hm:x.mean C w (E.X β) β s.m v)(h:rR s.m off x=some y):
  ∃v',(∀w':World,(Instr.fieldAt t v f).run P w'= .ok v' w')/\y.mean C w (E.X β) β s.m v':=by
 cases x with
 |box i o=>
  simp only[rR,aR] at h
  obtain⟨_,e,tr,h1,h2,h3⟩:=hm
  simp only[h1] at h
  obtain⟨ob,rv,cv⟩:=e
  cases ob with
  |box T cs us=>
   simp only[ai] at h
   subst h
   obtain⟨b,h4,rfl⟩:=h3 rfl
   refine⟨_,λw'=>aG0 hf _,⟨rfl,⟨.box T cs us,rv,cv⟩,tr,h1,h2,λ_=>⟨b,h4,by rw[fC]⟩⟩⟩
  |_=>cases h
 |ptr τ z o=>
  simp only[rR,ai] at h
  subst h
  have hm':Rd w (E.X β) [] v (.elem ((U.enc τ z).drop o)):=hm
  cases v with
  |pointer p=>
   cases hm' with
   | @elem _ ad _ val hX hb hcell hrd=>
    refine⟨.pointer (some (ad.add off)),λw'=>aG0 hf _,?_⟩
    show Rd w (E.X β) [] _ (.elem ((U.enc τ z).drop (o+off)))
    refine .elem (val:=λj=>val (off+j)) (by rw[add_block];exact hX) (by rw[add_block];exact hb) (λj d hj=> ?_) (λj d hj=> ?_)
    ·rw[add_add'];exact hcell _ d (by rw[eg] at hj ⊢;rw[<-ga];exact hj)
    ·exact hrd _ d (by rw[eg] at hj ⊢;rw[<-ga];exact hj)
  |_=>cases hm'
 |oel i c τ q z o=>
  simp only[rR] at h
  cases hv:okv s.m i c with
  |false=>simp[hv] at h
  |true=>
   simp only[hv,ae,ai] at h
   subst h
   obtain⟨h0,e,tr,h1,h2,h3⟩:=hm
   obtain⟨e',k1,k2⟩:=Bu hv
   rw[h1] at k1;injection k1 with k1;subst k1
   obtain⟨d,L,b,a1,a2,a3,a4,rfl⟩:=h3 k2
   refine⟨_,λw'=>aG0 hf _,⟨⟨h0.1,rfl⟩,e,tr,h1,h2,λ_=>⟨d,L,b,a1,a2,a3,a4,by rw[fC,ga]⟩⟩⟩
 |_=>cases h
def aOa (r:bE Y.C E s a w β){t:Nat}{i:TInfo}(hti:tiB P t i=true){x:Lf U}{y:Sv U}{v:Value}(hm:x.mean Y.C w (E.X β) β s.m v)(h:load Y s i x=some y):
  ∃p v',v= .pointer (some p)/\(∀w',Ext w w'->(loadVar t p).run P w'= .ok v' w')/\y.mean Y.C w (E.X β) β s.m v':=by
 cases x with
 |box b o=>
  simp only[load,aR] at h
  obtain⟨_,e,tr,h1,h2,h3⟩:=hm
  simp only[h1] at h
  have hok:=r.hp.ok b tr e h2 h1
  obtain⟨ob,rv,cv⟩:=e
  cases ob with
  |box T cs us=>
   obtain⟨bb,h4,rfl⟩:=h3 rfl
   obtain⟨_,b',vs,k1,k2,k3,k4⟩:=hok
   rw[h4] at k1;injection k1 with k1;subst k1
   obtain⟨v',q1,q2⟩:=C8 (P:=P) (p:=⟨bb,o,none⟩) hti h (k4.drop o) (λw' he j u hj=>by
    rw[fC,cell_of_row w' bb (o+j) _ T (0,0) (he.heap k3)]
    simpa using hj)
   exact⟨_,v',rfl,q1,q2⟩
  |_=>cases h
 |ptr τ z o=>
  simp only[load] at h
  have hm':Rd w (E.X β) [] v (.elem ((U.enc τ z).drop o)):=hm
  cases v with
  |pointer p=>
   cases hm' with
   | @elem _ ad _ val hX hb hcell hrd=>
    have hlen:((List.range ((Y.C.cel τ z).drop o).length).map val).length=((Y.C.cel τ z).drop o).length:=by simp
    obtain⟨v',q1,q2⟩:=C8 (P:=P) (p:=ad) (vs:=(List.range ((Y.C.cel τ z).drop o).length).map val) hti h (m:=s.m) (C:=Y.C) (w:=w) (X:=E.X β) (β:=β) ⟨hlen,λj u c h5 h6=>by
      have hjl:=lt_of_some h6
      simp only[bg,dT hjl,cJ,ai] at h5
      subst h5
      have hd:((U.enc τ z).drop o)[j]? =some c.toV:=by
       rw[<-Y.C.hcel,<-fp,bg,h6];rfl
      have hr:=hrd j _ hd
      have hdat:=Y.C.hdat τ z c (dl (az h6))
      cases c with
      |int k n=>exact hr.aAO
      |bool b=>exact hr.aAW
      |str b=>exact hr.aAT
      |sl τ' l=>exact hr
      |_=>cases hdat⟩ (λw' he j u hj=>by
      have hjl:j<((Y.C.cel τ z).drop o).length:=by have:=lt_of_some hj;rw[hlen] at this;exact this
      simp only[bg,dT hjl,cJ,ai] at hj
      subst hj
      exact he.cell (hcell j (((U.enc τ z).drop o)[j]'(by rw[<-Y.C.hcel,<-fp,bl];exact hjl)) (ac _)))
    exact⟨_,v',rfl,q1,q2⟩
  |_=>cases hm'
 |oel b c τ q z o=>
  simp only[load] at h
  cases hv:okv s.m b c with
  |false=>simp[hv] at h
  |true=>
   simp only[hv,ae] at h
   obtain⟨h0,e,tr,h1,h2,h3⟩:=hm
   obtain⟨e',k1,k2⟩:=Bu hv
   rw[h1] at k1;injection k1 with k1;subst k1
   subst k2
   obtain⟨d,L,bb,a1,a2,a3,a4,rfl⟩:=h3 rfl
   obtain⟨xz,m1,m2⟩:=bAm r.hp h2 h1 a1 a2 a3
   obtain⟨v',q1,q2⟩:=C8 (P:=P) (p:=⟨bb,q.toNat*U.K τ+o,none⟩) hti h (m1.drop o) (λw' he j u hj=>by
    have:=he.cell (m2 bb a4 (o+j) u (by simpa using hj))
    rw[fC] at this ⊢
    rw[show q.toNat*U.K τ+o+j=0+(q.toNat*U.K τ+(o+j)) by omega];exact this)
   exact⟨_,v',rfl,q1,q2⟩
 |oin b c τ q z j τ' l q' z' o=>
  simp only[load] at h
  cases hv:okv s.m b c with
  |false=>simp[hv] at h
  |true=>
   simp only[hv,ae] at h
   obtain⟨h0,e,tr,h1,h2,h3⟩:=hm
   obtain⟨e',k1,k2⟩:=Bu hv
   rw[h1] at k1;injection k1 with k1;subst k1
   subst k2
   obtain⟨L,xs,v0,bb,n',c',a1,a2,a3,a4,a5,a6,a7,a8,a9,rfl⟩:=h3 rfl
   obtain⟨u,ys,b1,b2,b3,b4⟩:=aYs r.hp h2 h1 a1 a3 a4 a5 a6
   have hub:u.b=some bb:=bJl (b1.symm.trans a7)
   obtain⟨l1,l2,x1,xz,x2,B1,Bz,B2,g1,g2,g3,g4,g5,g6,o1,o2,o3⟩:=aQv b3 a9
   have m1:Ms Y.C w (E.X β) β s.m xz (aEk b e.cv (Y.C.cel τ' z')):=⟨by rw[aTa,o2.len],λjj v x f1 f2=>by
    obtain⟨y,f3,f4⟩:=aS9 _ _ _ f2
    obtain⟨B',f5,f6⟩:=o2.at jj v y f1 f3
    rcases f4 with⟨τ2,l2,rfl,rfl⟩|⟨f4,rfl⟩
    ·exact⟨⟨(r.hp.vers b e h1).2,o2.ones v (az f1)⟩,e,tr,h1,h2,λ_=>(o2.rd (Z:=λb=>E.X β b/\b∉tr.all) (λb hb'=>hb'.1) (λb hb' hn=>hn.2 (b4 b (by simp[Tr.all,g6,hb'])))).2 jj v _ f1 f3⟩
    ·cases f5 with
     |int q1 q2=>exact⟨rfl,q1,q2⟩
     |bool=>rfl
     |str q=>exact⟨rfl,q⟩
     |fz=>exact absurd rfl (f4 _ _)
     |sl=>exact absurd rfl (f4 _ _)
     |su=>exact absurd rfl (f4 _ _)⟩
   obtain⟨v',q1,q2⟩:=C8 (P:=P) (p:=⟨bb,q'.toNat*U.K τ'+o,none⟩) hti h (m1.drop o) (λw' he jj u' hj=>by
    have hx:ys[q'.toNat*U.K τ'+(o+jj)]? =some u':=by
     have hj':xz[o+jj]? =some u':=by simpa using hj
     rw[g3,<-g4,ay (db _ _),cP,aq (lt_of_some hj')];exact hj'
    have:=he.cell (oN b2 hub hx)
    rw[fC] at this ⊢
    rw[show q'.toNat*U.K τ'+o+jj=0+(q'.toNat*U.K τ'+(o+jj)) by omega];exact this)
   exact⟨_,v',rfl,q1,q2⟩
 |_=>cases h
end
end Go.EV

namespace Go.EV
open Go.RowKit Go.VK
variable {U:Uni} {Y:Lay U} {TI:List (Nat×TInfo)} {P:Program} {g:GI} {E:Env U g}
section
variable {s:St U} {m:Mm U} {a:Act} {w w':World} {β β':List Tr} {X:Nat->Prop}
def lJ {x:Operand}(r:bE Y.C E s a w β){y:Lf U}(h:dS s x= .l y):y.mean Y.C w (E.X β) β s.m (a.eval x):=by
 have:=vX r (x:=x);rw[h] at this;exact this
def bLb {x:Operand}(r:bE Y.C E s a w β){cs:List (Lf U)}(h:sG s x= .a cs):∃vs:List Value,a.eval x= .agg vs.toArray/\Ms Y.C w (E.X β) β s.m vs cs:=by
 have:=iZ r (x:=x);rw[h] at this;exact this
def bDr {x:Operand}{cs:List (Lf U)}(h:dS s x= .a cs):sG s x= .a cs:=by
 unfold dS at h;cases ho:sG s x with
 |l y=>simp[ho] at h
 |a ds=>simp only[ho] at h;exact h
 |t xs=>simp[ho] at h
def bNf {x:Operand}{xs:List (Bool×List (Lf U))}(h:dS s x= .t xs):sG s x= .t xs:=by
 unfold dS at h;cases ho:sG s x with
 |l y=>simp[ho] at h
 |a ds=>simp[ho] at h
 |t xs=>simp only[ho] at h;exact h
def aHm {v:Value}{x:Lf U}(hm:x.mean Y.C w X β m v)(h:bDf x=true):v.oneCell'=true:=by
 cases x with
 |int=>obtain⟨rfl,_⟩:=hm;rfl
 |bool=>obtain rfl:=hm;rfl
 |str=>obtain⟨rfl,_⟩:=hm;rfl
 |nat=>obtain⟨_,_,_,rfl,_⟩:=hm;rfl
 |lt=>obtain⟨_,_,_,rfl,_⟩:=hm;rfl
 |sl τ l=>exact Rd.one hm rfl
 |nil=>obtain rfl:=hm;rfl
 |own=>exact hm.1.2
 |bor=>exact hm.1.2
 |inn=>exact hm.1.2
 |oel=>exact hm.1.2
 |oin=>exact hm.1.2
 |suf=>exact hm.1.2
 |box=>exact hm.1
 |ptr τ z off=>
  have hm':Rd w X [] v (.elem ((U.enc τ z).drop off)):=hm
  exact Rd.one hm' rfl
 |und=>cases h
 |any=>cases h
def aQy:∀{cs:List (Lf U)},Bg cs=true->∀c∈cs,bDf c=true
 |[],_,c,hc=>by simp at hc
 |x::xs,h,c,hc=>by
  simp only[Bg,aa] at h
  rcases ba.1 hc with rfl|hc
  ·exact h.1
  ·exact aQy h.2 c hc
def vZ {v:Value}{x:Sv U}{ps:List (Lf U)}(hm:x.mean Y.C w X β m v)(hp:parts x=some ps)(h1:Bg ps=true):Ms Y.C w X β m v.cells.toList ps/\∀u∈v.cells.toList,u.oneCell'=true:=by
 have key:∀{vs:List Value},Ms Y.C w X β m vs ps->∀u∈vs,u.oneCell'=true:=λ{vs} hM u hu=>by
  obtain⟨i,hi⟩:=cV.1 hu
  have hil:i<ps.length:=by rw[<-hM.1];exact lt_of_some hi
  exact aHm (hM.2 i u _ hi (ac hil)) (aQy h1 _ (cN hil))
 cases x with
 |l y=>
  simp only[parts,ai] at hp
  subst hp
  have ho:=aHm (Y:=Y) (m:=m) (β:=β) hm (aQy h1 y (by simp))
  rw[Qd ho]
  have hM:Ms Y.C w X β m [v] [y]:=⟨rfl,λi u c h5 h6=>by
   cases i with
   |zero=>simp at h5 h6;subst h5;subst h6;exact hm
   |succ i=>simp at h5⟩
  exact⟨hM,key hM⟩
 |a cs=>
  simp only[parts,ai] at hp
  subst hp
  obtain⟨vs,rfl,hM⟩:=hm
  have e:(Value.agg vs.toArray).cells.toList=vs:=rfl
  rw[e]
  exact⟨hM,key hM⟩
 |t xs=>cases hp
def aYt:∀{l:List (Nat×Nat)} {fs:List (Nat×Nat×Nat)} {n:Nat} {off ft k:Nat},aQs l fs=true->fs[n]? =some (off,ft,k)->l[n]? =some (off,k)
 |[],[],n,off,ft,k,_,h=>by simp at h
 |[],_::_,n,off,ft,k,h,_=>by cases h
 |_::_,[],n,off,ft,k,h,_=>by cases h
 |(x,y)::l,(o,f,c)::fs,0,off,ft,k,h,hn=>by
  simp only[aQs,aa] at h
  simp at hn
  obtain⟨rfl,rfl,rfl⟩:=hn
  rw[ah h.1.1,ah h.1.2];rfl
 |(x,y)::l,(o,f,c)::fs,n+1,off,ft,k,h,hn=>by
  simp only[aQs,aa] at h
  simpa using aYt h.2 (by simpa using hn)
def aTb (r:bE Y.C E s a w β){pls:List (Nat×Nat)}{fs:List (Nat×Nat×Nat)}(hp:aQs pls fs=true):∀{xs:List (Nat×Operand)} {cs ds:List (Lf U)},aV3 s fs xs cs=some ds->
  ∀cells:Array Value,Ms Y.C w (E.X β) β s.m cells.toList cs->∃res,Instr.fill (λi=>pls.toArray[i]?) cells (xs.map λ(i,x)=>(i,a.eval x))=some res/\Ms Y.C w (E.X β) β s.m res.toList ds
 |[],cs,ds,h,cells,hM=>by
  simp only[aV3,ai] at h
  subst h;exact⟨cells,rfl,hM⟩
 |(f,x)::xs,cs,ds,h,cells,hM=>by
  simp only[aV3,fld,aR] at h
  cases hf:fs[f]? with
  |none=>simp[hf] at h
  |some q=>
   obtain⟨off,ft,n⟩:=q
   cases hps:parts (sG s x) with
   |none=>simp[hf,hps] at h
   |some ps=>
    simp only[hf,hps] at h
    cases hb:(Nat.beq (len ps) n&&Nat.ble (off+n) (len cs)&&Bg ps) with
    |false=>rw[hb] at h;cases h
    |true=>
     rw[hb] at h
     simp only[ae] at h
     simp only[aa,bH] at hb
     obtain⟨⟨b1,b2⟩,b3⟩:=hb
     have b1:=ah b1
     have b2:=bc b2
     have hpm:=(vZ (iZ r (x:=x)) hps b3).1
     have hcl:cells.size=cs.length:=by have:=hM.1;simpa using this
     have hsz:(a.eval x).cells.toList.length=n:=by rw[hpm.1,b1]
     have hfg:=o8 off (a.eval x).cells.toList 0 cells (by rw[hsz,hcl];omega)
     rw[Ff _ _ _ (by rw[b1];omega)] at h
     obtain⟨res,r1,r2⟩:=aTb r hp h ((((a.eval x).cells.toList.zipIdx 0).foldl (λcs (cc,j)=>cs.setIfInBounds (off+j) cc) cells)) ⟨by
       have:=hfg.1
       simp only[cx,this,hcl,aw,bz,ck]
       omega,λj v c h5 h6=>by
       have h5':(((a.eval x).cells.toList.zipIdx 0).foldl (λcs (cc,j)=>cs.setIfInBounds (off+j) cc) cells)[j]? =some v:=by simpa using h5
       rw[hfg.2] at h5'
       rw[vU _ _ _ _ (by rw[b1];omega)] at h6
       simp only[ee,hsz] at h5'
       rw[b1] at h6
       split at h5'
       ·rename_i hj;rw[cH hj] at h6;exact hpm.2 _ v c h5' h6
       ·rename_i hj;rw[cX hj] at h6;exact hM.2 j v c (by simpa using h5') h6⟩
     refine⟨res,?_,r2⟩
     simp only[bm,Instr.fill]
     have hg:pls.toArray[f]? =some (off,n):=by simpa using aYt hp hf
     rw[hg]
     simp only
     have hcs:(a.eval x).cells.size=n:=by rw[<-hsz];simp
     rw[cX (by simp only[hcs,hcl];simp;omega)]
     rw[<-ip,ij]
     exact r1
def aYu {v:Value}{z:Kz}(h:kzB v z=true):(z.lf:Lf U).mean Y.C w X β m v:=by
 unfold kzB at h
 split at h
 ·simp only[aa,bp] at h
  obtain⟨⟨⟨rfl,rfl⟩,h1⟩,h2⟩:=h
  exact⟨rfl,h1,h2⟩
 ·rename_i b
  have:b=false:=by simpa using h
  subst this;rfl
 ·rename_i b
  have hs:b.data.size=0:=ah h
  have hb:b=⟨#[]⟩:=by
   cases b with
   |mk d=>have hd:d= #[]:=Array.eq_empty_of_size_eq_zero hs;rw[hd]
  subst hb
  exact⟨rfl,by decide⟩
 ·rfl
 ·cases h
def Kw:∀{vs:List Value} {zs:List Kz},aWc vs zs=true->Ms Y.C w X β m vs (zs.map (Kz.lf:Kz->Lf U))
 |[],[],_=>⟨rfl,by simp⟩
 |[],_::_,h=>by cases h
 |_::_,[],h=>by cases h
 |v::vs,z::zs,h=>by
  simp only[aWc,aa] at h
  have ih:=Kw h.2
  refine⟨by simp[ih.1],λi u c h1 h2=> ?_⟩
  cases i with
  |zero=>simp at h1 h2;subst h1;subst h2;exact aYu h.1
  |succ i=>exact ih.2 i u c (by simpa using h1) (by simpa using h2)
def qZ {C:Cod U}{v:Value}{x:Bool×List (Lf U)}(h:Mp C w X β m v x):(aV2 x).mean C w X β m v:=by
 obtain⟨b,cs⟩:=x
 cases b with
 |false=>obtain⟨c,rfl,h⟩:=h;exact h
 |true=>exact h
def aHn {t:Nat}{i:TInfo}{vs:List Value}{cs:List (Lf U)}{off:Nat}{x:Sv U}(hti:tiB P t i=true)(hc:cut i cs off=some x)(hM:Ms Y.C w X β m vs cs):
  ∃v,(∀w',(part t vs.toArray off).run P w'= .ok v w')/\x.mean Y.C w X β m v:=by
 rcases aN9 hc with⟨fs,ds,hu,h1,h2,rfl⟩|⟨hu,y,h1,rfl⟩
 ·have hag:=(A8 hti hu).1
  have hl:i.k<=vs.length-off:=by
   rw[hM.1,<-h2,h1,bz,ck];exact Nat.min_le_right _ _
  refine⟨.agg (vs.toArray.extract off (off+i.k)),λw'=> ?_,(vs.drop off).take i.k,?_,?_,λj v c h5 h6=> ?_⟩
  ·have e1:=(vT (w:=w') hag).1
   have e2:=(vT (w:=w') hag).2
   simp[part,e1,e2]
  ·congr 1
   apply gC
   simp[List.extract,cP]
  ·rw[h2,bz,ck];omega
  ·rw[eJ] at h5
   split at h5
   ·rw[h1,eJ] at h6
    split at h6
    ·exact hM.2 (off+j) v c (by simpa using h5) (by simpa using h6)
    ·exact absurd ‹j<i.k› ‹¬j<i.k›
   ·simp at h5
 ·have ho:=(bDq hti hu).1
  have hl:off<vs.length:=by rw[hM.1];exact lt_of_some h1
  exact⟨vs[off],λw'=>o9 ho (by simp[hl]),hM.2 off _ y (ac hl) h1⟩
end
end Go.EV

namespace Go.EV
open Go.RowKit Go.VK
variable {U:Uni} {Y:Lay U} {TI:List (Nat×TInfo)} {P:Program} {g:GI} {E:Env U g}
section
variable {s:St U} {a:Act} {w:World} {β:List Tr} {α:Type}
def kE (r:bE Y.C E s a w β){op:Op}{k:IntKind}{n:Int}(h:∀E':VK.Env P g,yN E' (brS s false) op (.int k n)):MO P Y.C E s a w β op (.l (.int k n)):=aS5 r false h (λv hv=>bNe hv)
def mH (r:bE Y.C E s a w β){op:Op}{b:Bool}(h:∀E':VK.Env P g,yN E' (brS s false) op (.bool b)):MO P Y.C E s a w β op (.l (.bool b)):=aS5 r false h (λv hv=>bLa hv)
def aQz (r:bE Y.C E s a w β){op:Op}{z:ByteArray}(h:∀E':VK.Env P g,yN E' (brS s false) op (.str z)):MO P Y.C E s a w β op (.l (.str z)):=aS5 r false h (λv hv=>bJk hv)
def aHo (r:bE Y.C E s a w β){b:BinOp}{t u:TypeId}{x y:Operand}{k:IntKind}{m n:Int}{z:Lf U}(hx:dS s x= .l (.int k m))(hy:dS s y= .l (.int k n))(h:bG3 b k m n=some z):MO P Y.C E s a w β (.binOp b t x y u) (.l z):=by
 cases b<;>simp only[bG3,ai,reduceCtorEq] at h<;>subst h
 ·exact kE r λ_=>add (dC hx) (dC hy)
 ·exact kE r λ_=>sub (dC hx) (dC hy)
 ·exact kE r λ_=>mul (dC hx) (dC hy)
 ·exact kE r λ_=>bKz (dC hx) (dC hy)
 ·exact kE r λ_=>bM9 (dC hx) (dC hy)
 ·exact kE r λ_=>bK0 (dC hx) (dC hy)
 ·exact mH r λ_=>eql (dC hx) (dC hy)
 ·exact mH r λ_=>neq (dC hx) (dC hy)
 ·exact mH r λ_=>lss (dC hx) (dC hy)
 ·exact mH r λ_=>leq (dC hx) (dC hy)
 ·exact mH r λ_=>gtr (dC hx) (dC hy)
 ·exact mH r λ_=>geq (dC hx) (dC hy)
def aHp (r:bE Y.C E s a w β){b:BinOp}{t u:TypeId}{x y:Operand}{m n:ByteArray}{z:Lf U}(hx:dS s x= .l (.str m))(hy:dS s y= .l (.str n))(h:bG4 b m n=some z):MO P Y.C E s a w β (.binOp b t x y u) (.l z):=by
 cases b<;>simp only[bG4,ai,reduceCtorEq] at h<;>subst h
 ·exact mH r λ_=>bOr (vY hx) (vY hy)
 ·exact mH r λ_=>sne (vY hx) (vY hy)
def bDs {i off ft n:Nat}{fs:List (Nat×Nat×Nat)}{c d:Lf U}{cs ds:List (Lf U)}{z:Bool}(h:eqQ TI i ((off,ft,n)::fs) (c::cs) (d::ds)=some z):off=i/\∃r,eqQ TI (Nat.succ i) fs cs ds=some r/\
  ((∃k k1 z1 q m n,iE TI ft=some ⟨.int q,k1,z1⟩/\c= .int k m/\d= .int k n/\z=(m==n&&r))\/(∃k1 z1 m n,iE TI ft=some ⟨.bool,k1,z1⟩/\c= .bool m/\d= .bool n/\z=(m==n&&r))\/(∃k1 z1 m n,iE TI ft=some ⟨.str,k1,z1⟩/\c= .str m/\d= .str n/\z=(m.toList==n.toList&&r))):=by
 unfold eqQ at h
 cases hb:Nat.beq off i with
 |false=>rw[hb] at h;cases h
 |true=>
  rw[hb] at h
  refine⟨ah hb,?_⟩
  simp only[ae] at h
  split at h
  ·rename_i r hr
   refine⟨r,hr,?_⟩
   split at h
   ·rename_i q k1 z1 k m k' n hf
    split at h
    ·rename_i he;subst he
     exact .inl ⟨k,k1,z1,q,m,n,hf,rfl,rfl,(ak h).symm⟩
    ·cases h
   ·rename_i k1 z1 m n hf;exact .inr (.inl ⟨k1,z1,m,n,hf,rfl,rfl,(ak h).symm⟩)
   ·rename_i k1 z1 m n hf;exact .inr (.inr ⟨k1,z1,m,n,hf,rfl,rfl,(ak h).symm⟩)
   ·cases h
  ·cases h
def bDt {D:Nat}{w w':World}{C:Cod U}{X:Nat->Prop}{β:List Tr}{m:Mm U}(hTI:oO P TI=true){xs ys:Array Value}:∀{fs:List (Nat×Nat×Nat)} {fds:List Field} {i:Nat} {cs ds:List (Lf U)} {z:Bool},fds.length=fs.length->
  (∀(j:Nat) (fd:Field) (q:Nat×Nat×Nat),fds[j]? =some fd->fs[j]? =some q->fd.type=q.2.1/\fd.offset=q.1)->
  (∀(j:Nat) (c:Lf U),cs[j]? =some c->∃v,xs[i+j]? =some v/\c.mean C w X β m v)->(∀(j:Nat) (c:Lf U),ds[j]? =some c->∃v,ys[i+j]? =some v/\c.mean C w X β m v)->
  eqQ TI i fs cs ds=some z->fds.all (Bi P)=true/\((fds.all λf=>f.name != "_")=true->(Op.eqFields (D+1) xs ys fds).run P w'= .ok z w')
 |[],fds,i,cs,ds,z,hl,_,_,_,he=>by
  have h1:fds=[]:=List.length_eq_zero_iff.1 hl
  subst h1
  cases cs<;>cases ds<;>first|(simp only[eqQ,ai] at he;subst he;exact⟨rfl,λ_=>aYk⟩)|cases he
 |(off,ft,n)::fs,[],i,cs,ds,z,hl,_,_,_,_=>by cases hl
 |(off,ft,n)::fs,fd::fds,i,[],ds,z,_,_,_,_,he=>by cases ds<;>cases he
 |(off,ft,n)::fs,fd::fds,i,c::cs,[],z,_,_,_,_,he=>by cases he
 |(off,ft,n)::fs,fd::fds,i,c::cs,d::ds,z,hl,hfd,hx,hy,he=>by
  obtain⟨h1,r,hr,hcase⟩:=bDs he
  obtain⟨k1,k2⟩:=hfd 0 fd (off,ft,n) rfl rfl
  have ho:fd.offset=i:=k2.trans h1
  obtain⟨v,x1,x2⟩:=hx 0 c rfl
  obtain⟨u,y1,y2⟩:=hy 0 d rfl
  rw[ee] at x1 y1
  obtain⟨g1,g2⟩:=bDt (D:=D) (w':=w') hTI (fs:=fs) (fds:=fds) (i:=Nat.succ i) (by simpa using hl) (λj fd q a b=>hfd (j+1) fd q (by simpa using a) (by simpa using b))
   (λj c h=>by have:=hx (j+1) c (by simpa using h);rwa [show i+(j+1)=Nat.succ i+j by omega] at this) (λj c h=>by have:=hy (j+1) c (by simpa using h);rwa [show i+(j+1)=Nat.succ i+j by omega] at this) hr
  have fin:∀{q:Bool},Bi P fd=true->Kn P fd.type=true->(Op.equalIn (D+1) fd.type v u).run P w'= .ok q w'->z=(q&&r)->(fd::fds).all (Bi P)=true/\(((fd::fds).all λf=>f.name != "_")=true->(Op.eqFields (D+1) xs ys (fd::fds)).run P w'= .ok z w'):=λa1 a2 a3 a4=>by
   refine⟨by rw[gr,a1,g1];rfl,λhn=> ?_⟩
   rw[gr,aa] at hn
   rw[a4]
   exact bDd hn.1 a2 (by rw[ho];exact x1) (by rw[ho];exact y1) a3 (g2 hn.2)
  have k1:fd.type=ft:=k1
  rcases hcase with⟨k,j1,z1,q,m,n,hf,rfl,rfl,hz⟩|⟨j1,z1,m,n,hf,rfl,rfl,hz⟩|⟨j1,z1,m,n,hf,rfl,rfl,hz⟩
  ·obtain⟨t1,t2,_⟩:=Kv (bP hTI hf) rfl
   obtain⟨rfl,_⟩:=x2
   obtain⟨rfl,_⟩:=y2
   exact fin (by simp[Bi,k1,t1]) (by rw[k1];exact t2) (by rw[k1];exact run_equalIn_int w' D _ _ _ _ _ t1) hz
  ·obtain⟨t1,t2,_⟩:=A7 (bP hTI hf) rfl
   obtain rfl:=x2
   obtain rfl:=y2
   exact fin (by simp[Bi,k1,t1]) (by rw[k1];exact t2) (by rw[k1];exact run_equalIn_bool' w' D _ _ _ t1) hz
  ·obtain⟨t1,t2,_⟩:=Fg (bP hTI hf) rfl
   obtain⟨rfl,_⟩:=x2
   obtain⟨rfl,_⟩:=y2
   exact fin (by simp[Bi,k1,t1]) (by rw[k1];exact t2) (by rw[k1];exact run_equalIn_string w' D _ _ _ t1) hz
def aTc {P:Program}:∀{fs:List Field} {l:List (Nat×Nat)},aQn P fs=some l->l.length=fs.length
 |[],l,h=>by simp[aQn] at h;subst h;rfl
 |f::fs,l,h=>by
  simp only[aQn] at h
  split at h
  ·rename_i i l' _ h2
   have:=ak h;subst this
   simp[aTc h2]
  ·cases h
def aTd:∀{l:List (Nat×Nat)} {fs:List (Nat×Nat×Nat)},aQs l fs=true->l.length=fs.length
 |[],[],_=>rfl
 |[],_::_,h=>by cases h
 |_::_,[],h=>by cases h
 |(a,b)::l,(off,ft,n)::fs,h=>by
  simp only[aQs,aa] at h
  simp[aTd h.2]
def bDu {P:Program}{f:Field}(h:Bi P f=true):Gy P f.type=true:=by
 unfold Bi at h
 unfold Gy
 cases hu:P.underlying f.type with
 |none=>simp[hu] at h
 |some d=>cases d<;>simp_all
def bAn {P:Program}{l:List Field}(h:l.all (Bi P)=true):(l.all λf=>Gy P f.type)=true:=by
 rw[cG] at h ⊢
 exact λf hf=>bDu (h f hf)
def bDv {t:Nat}{f:Nat×Nat×Nat}{fs:List (Nat×Nat×Nat)}{k:Nat}{zz:List Kz}(hTI:oO P TI=true)(h1:iE TI t=some ⟨.st (f::fs),k,zz⟩):∃fds:Array Field,P.underlying t=some (.struct fds)/\fds.toList.length=(f::fs).length/\
  (∀(j:Nat) (fd:Field) (q:Nat×Nat×Nat),fds.toList[j]? =some fd->(f::fs)[j]? =some q->fd.type=q.2.1/\fd.offset=q.1)/\
  ((fds.toList.all λf=>Gy P f.type)=true->P.eqGuardType P.depth t=false/\P.stoodInHeld t=false/\(fds.toList.all λf=>f.name != "_")=true):=by
 obtain⟨_,hfs,hor⟩:=A8 (bP hTI h1) rfl
 have heq:=bNc (bP hTI h1) rfl
 rcases hor with⟨_,pls,k1,k2⟩|⟨hne,_⟩
 ·unfold aG4 at k1
  cases hu:P.underlying t with
  |none=>simp[hu] at k1
  |some d=>
   cases d<;>simp[hu] at k1
   rename_i fds
   refine⟨fds,rfl,(aTc k1).symm.trans (aTd k2),λj fd qq ha hc=> ?_,λhf=> ?_⟩
   ·have h5:=(aHl hfs (n:=j) (off:=qq.1) (ft:=qq.2.1) (k:=qq.2.2) hc).2.1
    rw[ca] at h5
    simp only[bAf,hu] at h5
    rw[<-Array.getElem?_toList,ha] at h5
    simpa using h5
   ·simp only[bK9,hu,hf,bf,cL,aa,cz] at heq
    exact⟨heq.1,heq.2.1,heq.2.2⟩
 ·cases hne
def aYv {D:Nat}{w:World}{C:Cod U}{X:Nat->Prop}{β:List Tr}{m:Mm U}(hTI:oO P TI=true){t:Nat}{f:Nat×Nat×Nat}{fs:List (Nat×Nat×Nat)}{k:Nat}{zz:List Kz}{cs ds:List (Lf U)}{q:Bool}{vs us:List Value}(h1:iE TI t=some ⟨.st (f::fs),k,zz⟩)
  (hv:Ms C w X β m vs cs) (hu:Ms C w X β m us ds) (h2:eqQ TI 0 (f::fs) cs ds=some q):P.eqGuardType P.depth t=false/\Gy P t=true/\∀w':World,(Op.equalIn (D+2) t (.agg vs.toArray) (.agg us.toArray)).run P w'= .ok q w':=by
 obtain⟨fds,hfd,hlen,hty,hok⟩:=bDv hTI h1
 have hget:∀(l:List Value) (e:List (Lf U)),Ms C w X β m l e->∀(j:Nat) (c:Lf U),e[j]? =some c->∃v,l.toArray[0+j]? =some v/\c.mean C w X β m v:=λl e hm j c hc=>by
  have hj:j<l.length:=by rw[hm.1];exact(aE.1 hc).1
  exact⟨l[j],by simp[hj],hm.2 j _ c (ac hj) hc⟩
 have key:=λw':World=>bDt (D:=D) (w:=w) (w':=w') (C:=C) (X:=X) (β:=β) (m:=m) hTI (xs:=vs.toArray) (ys:=us.toArray) (fds:=fds.toList) (i:=0) hlen hty (hget vs cs hv) (hget us ds hu) h2
 obtain⟨e1,e2,e3⟩:=hok (bAn (key w).1)
 refine⟨e1,by simp only[Gy,hfd];exact(key w).1,λw'=> ?_⟩
 have hfo:P.fieldsOf t=fds:=by simp[Program.fieldsOf,hfd]
 rw[run_equalIn_struct w' (D+1) t _ _ (by rw[hfo];exact hfd) e2,hfo]
 exact(key w').2 e3
def bLc {D:Nat}{w:World}{C:Cod U}{X:Nat->Prop}{β:List Tr}{m:Mm U}(hTI:oO P TI=true){ft:Nat}{i:TInfo}{x y:Sv U}{v u:Value}{q:Bool}(hf:iE TI ft=some i)(hx:x.mean C w X β m v)(hy:y.mean C w X β m u)(h:eqV TI i x y=some q):
  Gy P ft=true/\∀w':World,(Op.equalIn (D+2) ft v u).run P w'= .ok q w':=by
 obtain⟨iu,ik,iz⟩:=i
 unfold eqV at h
 split at h
 ·split at h
  ·rename_i he
   split at h
   ·rename_i hk;subst hk
    have he:iu=_:=he
    subst he
    obtain⟨t1,_⟩:=Kv (bP hTI hf) rfl
    obtain⟨rfl,_⟩:=hx
    obtain⟨rfl,_⟩:=hy
    cases h
    exact⟨by simp[Gy,t1],λw'=>run_equalIn_int w' _ _ _ _ _ _ t1⟩
   ·cases h
  ·cases h
 ·split at h
  ·rename_i he
   have he:iu=_:=he
   subst he
   obtain⟨t1,_⟩:=A7 (bP hTI hf) rfl
   obtain rfl:=hx
   obtain rfl:=hy
   cases h
   exact⟨by simp[Gy,t1],λw'=>run_equalIn_bool' w' _ _ _ _ t1⟩
  ·cases h
 ·split at h
  ·rename_i he
   have he:iu=_:=he
   subst he
   obtain⟨t1,_⟩:=Fg (bP hTI hf) rfl
   obtain⟨rfl,_⟩:=hx
   obtain⟨rfl,_⟩:=hy
   cases h
   exact⟨by simp[Gy,t1],λw'=>run_equalIn_string w' _ _ _ _ t1⟩
  ·cases h
 ·split at h
  ·rename_i g gs he
   have he:iu=_:=he
   subst he
   obtain⟨vs,rfl,hv⟩:=hx
   obtain⟨us,rfl,hu⟩:=hy
   obtain⟨_,k2,k3⟩:=aYv (D:=D) hTI hf hv hu h
   exact⟨k2,k3⟩
  ·cases h
 ·cases h
def bDw {D:Nat}{w w':World}{X:Nat->Prop}{β:List Tr}{m:Mm U}(hTI:oO P TI=true){vs us:List Value}{cs ds:List (Lf U)}(hv:Ms Y.C w X β m vs cs)(hu:Ms Y.C w X β m us ds):∀{fs:List (Nat×Nat×Nat)} {fds:List Field} {z:Bool},fds.length=fs.length->
  (∀(j:Nat) (fd:Field) (q:Nat×Nat×Nat),fds[j]? =some fd->fs[j]? =some q->fd.type=q.2.1/\fd.offset=q.1)->
  eqN TI fs cs ds=some z->(fds.all λf=>Gy P f.type)=true/\((fds.all λf=>f.name != "_")=true->(Op.eqFields (D+2) vs.toArray us.toArray fds).run P w'= .ok z w')
 |[],fds,z,hl,_,he=>by
  have h1:fds=[]:=List.length_eq_zero_iff.1 hl
  subst h1
  cases he
  exact⟨rfl,λ_=>aYk⟩
 |(off,ft,n)::fs,[],z,hl,_,_=>by cases hl
 |(off,ft,n)::fs,fd::fds,z,hl,hfd,he=>by
  unfold eqN at he
  split at he
  ·rename_i i hi
   split at he
   ·rename_i x hcx
    split at he
    ·rename_i y hcy
     split at he
     ·rename_i a ha
      split at he
      ·rename_i r hr
       obtain⟨k1,k2⟩:=hfd 0 fd (off,ft,n) rfl rfl
       have k1:fd.type=ft:=k1
       have k2:fd.offset=off:=k2
       obtain⟨v,p1,m1⟩:=aHn (bP hTI hi) hcx hv
       obtain⟨u,p2,m2⟩:=aHn (bP hTI hi) hcy hu
       obtain⟨f1,f2⟩:=bLc (D:=D) hTI hi m1 m2 ha
       obtain⟨g1,g2⟩:=bDw (D:=D) (w':=w') hTI hv hu (fs:=fs) (fds:=fds) (by simpa using hl) (λj fd q a b=>hfd (j+1) fd q (by simpa using a) (by simpa using b)) hr
       cases he
       refine⟨by rw[gr,k1,f1,g1];rfl,λhn=> ?_⟩
       rw[gr,aa] at hn
       have hnm:fd.name≠ "_" :=by simpa using hn.1
       simp only[Op.eqFields,hnm,ne_eq,not_false_eq_true,gy,Sem.run_bind,k1,k2,p1,p2,f2,Result.andThen_ok]
       cases a with
       |true=>simp only[bf,Bool.false_eq_true,if_false,da];exact g2 hn.2
       |false=>simp only[dv,gy,Sem.run_pure,eL]
      ·cases he
     ·cases he
    ·cases he
   ·cases he
  ·cases he
def aOb (hTI:oO P TI=true)(r:bE Y.C E s a w β){b:BinOp}{t u:TypeId}{x y:Operand}{f:Nat×Nat×Nat}{fs:List (Nat×Nat×Nat)}{k:Nat}{zz:List Kz}{cs ds:List (Lf U)}{q:Bool}(hx:dS s x= .a cs)(hy:dS s y= .a ds)(h1:iE TI t=some ⟨.st (f::fs),k,zz⟩)(h2:eqB TI (f::fs) cs ds=some q)(hb:b= .eql\/b= .neq):
  MO P Y.C E s a w β (.binOp b t x y u) (.l (.bool (if b= .eql then q else !q))):=λo ho=>by
 obtain⟨vs,q1,q2⟩:=bLb r (bDr hx)
 obtain⟨us,p1,p2⟩:=bLb r (bDr hy)
 have hq:P.eqGuardType P.depth t=false/\∀w':World,(Op.equalIn 10000 t (.agg vs.toArray) (.agg us.toArray)).run P w'= .ok q w':=by
  unfold eqB at h2
  split at h2
  ·rename_i z hz
   cases h2
   obtain⟨k1,_,k3⟩:=aYv (D:=9998) hTI h1 q2 p2 hz
   exact⟨k1,k3⟩
  ·obtain⟨fds,hfd,hlen,hty,hok⟩:=bDv hTI h1
   have key:=λw':World=>bDw (D:=9997) (w':=w') hTI q2 p2 hlen hty h2
   obtain⟨e1,e2,e3⟩:=hok (key w).1
   refine⟨e1,λw'=> ?_⟩
   have hfo:P.fieldsOf t=fds:=by simp[Program.fieldsOf,hfd]
   rw[run_equalIn_struct w' 9999 t _ _ (by rw[hfo];exact hfd) e2,hfo]
   exact(key w').2 e3
 obtain⟨e1,hq⟩:=hq
 rcases hb with rfl|rfl
 ·exact⟨.bool q,λw' _=>by simp only[execOp,ho,q1,p1,Sem.run_bind,run_eqGuard_agg _ _ _ _ _ _ _ e1,Result.andThen_ok,run_eql_struct,hq,Sem.run_pure],rfl⟩
 ·exact⟨.bool (!q),λw' _=>by simp only[execOp,ho,q1,p1,Sem.run_bind,run_eqGuard_agg _ _ _ _ _ _ _ e1,Result.andThen_ok,run_neq_struct,hq,Sem.run_pure],rfl⟩
def bAo (hTI:oO P TI=true)(r:bE Y.C E s a w β){b:BinOp}{t u:TypeId}{x y:Operand}{z:Lf U}(h:bin TI b t (dS s x) (dS s y)=some z):MO P Y.C E s a w β (.binOp b t x y u) (.l z):=by
 generalize hx:dS s x=vx at h
 generalize hy:dS s y=vy at h
 unfold bin at h
 split at h
 ·split at h
  ·rename_i he;subst he;exact aHo r hx hy h
  ·cases h
 ·exact aHp r hx hy h
 ·split at h
  ·rename_i i k z' hf
   have ht:=(A7 (bP hTI hf) rfl).1
   split at h
   ·simp only[ai] at h;subst h;exact mH r λ_=>bOs ht (A9 hx) (A9 hy)
   ·simp only[ai] at h;subst h;exact mH r λ_=>bOt ht (A9 hx) (A9 hy)
   ·cases h
  ·cases h
 ·split at h
  ·rename_i f fs k zz hf
   split at h
   ·rename_i q hq
    split at h
    ·simp only[ai] at h;subst h;exact aOb hTI r hx hy hf hq (.inl rfl)
    ·simp only[ai] at h;subst h;exact aOb hTI r hx hy hf hq (.inr rfl)
    ·cases h
   ·cases h
  ·cases h
 ·cases h
def aDt {xs:Array Operand}{x y:Operand}(h:xs.toList=[x,y]):xs= #[x,y]:=by apply gC;simpa using h
def aDu {α:Type}{xs:Array α}{x:α}(h:xs.toList=[x]):xs= #[x]:=by apply gC;simpa using h
def aOc (hTI:oO P TI=true)(r:bE Y.C E s a w β){op:Op}{x:Sv U}(h:pur Y TI s op=some x):MO P Y.C E s a w β op x:=by
 unfold pur at h
 split at h
 ·simp only[ai] at h;subst h
  exact λo ho=>⟨_,λw' _=>by simp[execOp,ho],iZ r⟩
 ·simp only[ai] at h;subst h
  exact λo ho=>⟨_,λw' _=>by simp[execOp,ho],iZ r⟩
 ·rename_i c y z
  split at h
  ·rename_i b hc
   have hcv:a.eval c= .bool b:=lJ r hc
   cases b with
   |true=>
    simp only[ae,ai] at h;subst h
    exact λo ho=>⟨_,λw' _=>by simp[execOp,ho,hcv,asBool],iZ r⟩
   |false=>
    simp only[ab,ai] at h;subst h
    exact λo ho=>⟨_,λw' _=>by simp[execOp,ho,hcv,asBool],iZ r⟩
  ·cases h
 ·rename_i y
  split at h
  ·rename_i b off hx
   split at h
   ·rename_i T cs us rv cv h4
    simp only[ai] at h;subst h
    rw[aR] at h4
    have hm:=lJ r hx
    obtain⟨_,e,tr,h1,h2,h3⟩:=lJ r hx
    rw[h4] at h1;injection h1 with h1;subst h1
    obtain⟨bb,_,hv⟩:=h3 rfl
    exact λo ho=>⟨a.eval y,λw' _=>by simp[execOp,ho,hv],hm⟩
   ·cases h
  ·cases h
 ·rename_i u t y
  split at h
  ·rename_i b hy
   simp only[ai] at h;subst h;exact mH r λ_=>not_ (A9 hy)
  ·rename_i k n hy
   simp only[ai] at h;subst h;exact kE r λ_=>bOp (dC hy)
  ·cases h
 ·rename_i t u y
  split at h
  ·rename_i k1 i1 z1 j i2 z2 k n h1 h2 h3
   simp only[ai] at h;subst h
   exact kE r λ_=>cnv (by rw[(Kv (bP hTI h1) rfl).1];rfl) (Kv (bP hTI h2) rfl).1 (dC h3)
  ·cases h
 ·rename_i t y f
  split at h
  ·rename_i fs i z p h1 h2
   split at h
   ·rename_i off ft n h3
    split at h
    ·rename_i q h4
     simp only[ai] at h;subst h
     have hfb:=(A8 (bP hTI h1) rfl).2.1
     simp only[fld,aR] at h3
     have h5:=(aHl hfb h3).1
     rw[ca] at h5
     obtain⟨v',q1,q2⟩:=C9 r h5 (lJ r h2) h4
     exact λo ho=>⟨v',λw' _=>by simp[execOp,ho,q1],q2⟩
    ·cases h
   ·cases h
  ·cases h
 ·rename_i t y
  split at h
  ·rename_i i p h1 h2
   obtain⟨p',v',q1,q2,q3⟩:=aOa r (bP hTI h1) (lJ r h2) h
   exact λo ho=>⟨v',λw' he=>by simp[execOp,ho,q1,Instr.loadAt,Instr.sureAddr,q2 w' he],q3⟩
  ·cases h
 ·rename_i t y f
  split at h
  ·rename_i fs i z cs h1 h2
   split at h
   ·rename_i off ft n h3
    split at h
    ·rename_i j h4
     have hfb:=(A8 (bP hTI h1) rfl).2.1
     simp only[fld,aR] at h3
     have h5:=(aHl hfb h3).2.1
     rw[ca] at h5
     obtain⟨vs,q1,q2⟩:=bLb r (bDr h2)
     obtain⟨v',q3,q4⟩:=aHn (bP hTI h4) h q2
     exact λo ho=>⟨v',λw' _=>by simp only[execOp,ho,q1,aYm h5,q3,Sem.run_bind,Sem.run_pure,Result.andThen_ok,Sem.run_map],q4⟩
    ·cases h
   ·cases h
  ·cases h
 ·rename_i t ps
  split at h
  ·rename_i fs k z h1
   split at h
   ·rename_i cs h2
    simp only[ai] at h;subst h
    have hti:=bP hTI h1
    obtain⟨j,zv,k3,k4,k5⟩:=aGk hti
    obtain⟨hagg,_,hor⟩:=A8 hti rfl
    rcases hor with⟨_,pls,k1,k2⟩|⟨rfl,har⟩
    rotate_left
    ·--an array:nothing is put in
     have hps:ps.toList=[]:=by
      cases hp:ps.toList with
      |nil=>rfl
      |cons x xs=>rw[hp] at h2;obtain⟨f,y⟩:=x;simp[aV3,fld,aR] at h2
     rw[hps] at h2
     simp only[aV3,ai] at h2
     subst h2
     refine λo ho=>⟨.agg zv.cells,λw' _=> ?_,zv.cells.toList,by simp,Kw k5⟩
     unfold arB at har
     cases hu:P.underlying t with
     |none=>simp[hu] at har
     |some d=>
      cases d<;>simp[hu] at har
      rename_i n e
      cases hi:P.info? e with
      |none=>simp[hi] at har
      |some i=>simp[execOp,ho,Instr.build,zeroValue,typeInfo,k3,k4,run_underlying hu,sizeOf,hi,hps,Instr.fill]
    obtain⟨res,k6,k7⟩:=aTb r k2 h2 zv.cells (Kw k5)
    refine λo ho=>⟨.agg res,λw' _=> ?_,res.toList,by simp,k7⟩
    unfold aG4 at k1
    cases hu:P.underlying t with
    |none=>simp[hu] at k1
    |some d=>
     cases d<;>simp[hu] at k1
     rename_i fds
     have hm:=aG5 (w:=w') k1
     have hm':(fds.mapM λf=>(Prod.mk f.offset<$>sizeOf f.type:Sem (Nat×Nat))).run P w'= .ok pls.toArray w':=by
      rw[<-Array.toArray_toList (xs:=fds),gn]
      simp only[Sem.run_map,hm,Result.andThen_ok]
      try rfl
     simp[execOp,ho,Instr.build,zeroValue,typeInfo,k3,k4,run_underlying hu,hm']
     have k6':Instr.fill (λi=>pls[i]?) zv.cells (ps.toList.map λx=>(x.1,a.eval x.2))=some res:=by simpa using k6
     simp[k6']
   ·cases h
  ·cases h
 ·rename_i y i
  split at h
  ·rename_i xs h1
   split at h
   ·rename_i c h2
    simp only[ai] at h;subst h
    rw[aR] at h2
    have hm:=iZ r (x:=y)
    rw[bNf h1] at hm
    obtain⟨vs,q1,q2,q3⟩:=hm
    have hl:i<vs.length:=by rw[q2];exact lt_of_some h2
    exact λo ho=>⟨vs[i],λw' _=>by simp[execOp,ho,q1,Instr.extract,hl],qZ (q3 i _ c (ac hl) h2)⟩
   ·cases h
  ·cases h
 ·rename_i xa ats
  split at h
  ·rename_i y t hxa hats
   rw[aDu hxa,aDu hats]
   split at h
   ·rename_i e ek eb i z p h1 h2
    have hs:=(yS (bP hTI h1) rfl).1
    split at h
    ·cases h
    ·rename_i hns
     cases hl:lenOf s.m p with
     |none=>simp[hl] at h
     |some q=>
      simp only[hl,ai] at h;subst h
      cases p with
      |nil=>
       simp only[lenOf,ai] at hl;subst hl
       have hv:∀E':VK.Env P g,VK.Ev E' (brS s false) y .nil:=λE'=>by
        have:vw s.m false (sG s y)= .nil:=by
         unfold dS at h2
         cases ho:sG s y with
         |l z=>
          simp only[ho,Sv.l.injEq] at h2
          cases z with
          |nil=>rfl
          |nat a=>simp only[rsv,aR] at h2;cases hn:s.m.ns[a]? <;>simp[hn] at h2
          |lt a n=>simp only[rsv,aR] at h2;cases hn:s.m.ns[a]? <;>simp[hn] at h2
          |_=>simp[rsv] at h2
         |_=>simp[ho] at h2
        rw[<-this];exact aQt
       exact kE r λE'=>bOv hs (hv E')
      |str z=>exact absurd rfl (hns z)
      |_=>
       simp only[lenOf] at hl
       split at hl
       ·rename_i τ l hr
        simp only[ai] at hl;subst hl
        exact kE r λ_=>bOu hs (bJj h2 hr)
       ·cases hl
   ·rename_i i z q h1 h2
    simp only[ai] at h;subst h
    exact kE r λ_=>bOw (Fg (bP hTI h1) rfl).1 (vY h2)
   ·cases h
  ·cases h
 ·rename_i xa ats
  split at h
  ·rename_i y z hxa
   rw[aDt hxa]
   split at h
   ·rename_i k m k' n h1 h2
    split at h
    ·rename_i he;subst he
     simp only[ai] at h;subst h
     exact kE r λ_=>mn2 (dC h1) (dC h2)
    ·cases h
   ·cases h
  ·cases h
 ·rename_i xa ats
  split at h
  ·rename_i y z hxa
   rw[aDt hxa]
   split at h
   ·rename_i k m k' n h1 h2
    split at h
    ·rename_i he;subst he
     simp only[ai] at h;subst h
     exact kE r λ_=>mx2 (dC h1) (dC h2)
    ·cases h
   ·cases h
  ·cases h
 ·cases h
end
end Go.EV

namespace Go.EV
open Go.RowKit Go.VK
variable {U:Uni} {Y:Lay U} {TI:List (Nat×TInfo)} {P:Program} {g:GI} {E:Env U g}
section
variable {s:St U} {a:Act} {w:World} {β:List Tr} {α:Type}
def mI {x:Operand}{n:Int}(h:uB (dS s x)=some n):∃k,dS s x= .l (.int k n):=by
 cases ho:dS s x with
 |l y=>
  cases y with
  |int k m=>rw[ho] at h;simp only[uB,ai] at h;subst h;exact⟨k,rfl⟩
  |_=>rw[ho] at h;cases h
 |_=>rw[ho] at h;cases h
def bAp (r:bE Y.C E s a w β){f:(τ:Nat)->List (U.El τ)->List (U.El τ)}{p p':Lf U}{τ:Nat}{l:List (U.El τ)}(hr:qA s.m p=some (.sl τ l))(hs:aL7 f s.m.o p=some p'){v v0:Value}(hm:p.mean Y.C w (E.X β) β s.m v0)
  (h1:v.oneCell'=true) (hv:∀Z:Nat->Prop,Rd w Z [] v0 (.slice (U.K τ) (l.map (U.enc τ)))->Rd w Z [] v (.slice (U.K τ) ((f τ l).map (U.enc τ)))):p'.mean Y.C w (E.X β) β s.m v:=by
 have own:∀(i c:Nat) (e:EO U),s.m.o[i]? =some e->e.cv=c->mR p=false->(∀t,β[i]? =some t->Rd w (λb=>E.X β b/\b∉t.all) [] v0 (.slice (U.K τ) (l.map (U.enc τ))))->(Lf.bor i c τ (f τ l):Lf U).mean Y.C w (E.X β) β s.m v:=λi c e he hc _ hrd=>by
  obtain⟨t,ht⟩:=r.hp.tr he
  exact⟨⟨hc▸(r.hp.vers i e he).2,h1⟩,e,t,he,ht,λ_=>hv _ (hrd t ht)⟩
 cases p with
 |sl τ' l'=>
  simp only[qA,ai,Lf.sl.injEq] at hr
  obtain⟨rfl,hl⟩:=hr
  obtain rfl:=ez hl
  simp only[aL7,ai] at hs;subst hs
  exact hv _ hm
 |own i q=>
  obtain⟨_,e,t,k1,k2,k3⟩:=hm
  simp only[qA,aR,k1] at hr
  simp only[aL7,aR,k1] at hs
  obtain⟨ob,rv,cv⟩:=e
  cases ob with
  |tree τ' d l'=>
   cases hb:Nat.beq rv q with
   |false=>simp[hb] at hr
   |true=>
    simp only[hb,ae,ai,Lf.sl.injEq] at hr hs
    obtain⟨rfl,hl⟩:=hr
    obtain rfl:=ez hl
    subst hs
    refine own i cv _ k1 rfl rfl (λt' ht'=> ?_)
    rw[k2] at ht';injection ht' with ht';subst ht'
    rw[k3 (ah hb)]
    exact(Hp.tree r.hp k2 k1 rfl).rd (λb hb'=>hb'.1) (λb hb' hn=>hn.2 hb')
  |_=>cases hr
 |bor i c τ' l'=>
  obtain⟨h0,e,t,k1,k2,k3⟩:=hm
  simp only[qA,okv,aR,k1] at hr
  simp only[aL7,ai] at hs
  cases hb:Nat.beq e.cv c with
  |false=>simp[hb] at hr
  |true=>
   simp only[hb,ae,ai,Lf.sl.injEq] at hr
   obtain⟨rfl,hl⟩:=hr
   obtain rfl:=ez hl
   subst hs
   refine own i c e k1 (ah hb) rfl (λt' ht'=> ?_)
   rw[k2] at ht';injection ht' with ht';subst ht'
   exact k3 (ah hb)
 |inn i c τ0 q z j τ' l'=>
  have hm0:=hm
  obtain⟨h0,e,t,k1,k2,k3⟩:=hm
  have hr0:=hr
  simp only[qA,okv,aR,k1] at hr
  simp only[aL7,ai] at hs
  cases hb:Nat.beq e.cv c with
  |false=>simp[hb] at hr
  |true=>
   simp only[hb,ae,ai,Lf.sl.injEq] at hr
   obtain⟨rfl,hl⟩:=hr
   obtain rfl:=ez hl
   subst hs
   refine own i c e k1 (ah hb) rfl (λt' ht'=> ?_)
   rw[k2] at ht';injection ht' with ht';subst ht'
   have hc:=ah hb
   obtain⟨d,L,xs,a1,a2,a3,a4,a5,a6⟩:=k3 hc
   have hok:=r.hp.ok i t e k2 k1
   rw[a1] at hok
   obtain⟨_,xs',b2,b3⟩:=hok
   obtain⟨l1,l2,x1,xz,x2,B1,Bz,B2,g1,g2,g3,g4,g5,g6,o1,o2,o3,_⟩:=aQw r.hp k2 k1 a1 a3
   have hxs:xs=x1++(xz++x2):=by
    rcases dO a5 with⟨c1,c2,c3,_⟩|⟨b,cur,c1,_,_,_,c5,_,c7⟩
    ·have:=g3.1;rw[c2] at this;simp at this
     rw[c3,this.1,this.2.1,this.2.2];rfl
    ·rcases dO g3 with⟨d1,_⟩|⟨b',cur',d1,_,_,_,d5,_,d7⟩
     ·rw[c1] at d1;cases d1
     ·rw[c1] at d1;injection d1 with d1;subst d1
      rw[c5] at d5;injection d5 with d5;injection d5 with d5;subst d5
      rw[<-c7,<-d7]
   have hvz:xz[j]? =some v0:=by
    have hjl:j<xz.length:=by rw[g5,<-Y.C.hlen τ0 z];exact lt_of_some a4
    rw[hxs,<-g4,ay (db _ _),cP,aq hjl] at a6
    exact a6
   exact(o2.rd (Z:=λb=>E.X β b/\b∉t.all) (λb hb'=>hb'.1) (λb hb' hn=>hn.2 (by simp[Tr.all,g6,hb']))).2 j v0 _ hvz a4
 |_=>cases hs
def aQ0 (r:bE Y.C E s a w β){op:Op}{f:(τ:Nat)->List (U.El τ)->List (U.El τ)}{x:Operand}{p p':Lf U}{τ:Nat}{l:List (U.El τ)}(hx:dS s x= .l p)(hr:qA s.m p=some (.sl τ l))(hs:aL7 f s.m.o p=some p')
  (a0 b0:Nat) (hab:a0<=b0) (hb:b0<=l.length) (hf:f τ l=(l.take b0).drop a0)
  (hrun:∀(A:Option Addr) (c:Nat),a.eval x= .slice A l.length c->l.length<=c->∀o:Oper,o.op=op->∀w',(execOp a.eval o).run P w'= .ok (.value (.slice (if c=a0 then A else A.map λq=>q.add (a0*U.K τ)) (b0-a0) (c-a0))) w'):MO P Y.C E s a w β op (.l p'):=λo ho=>by
 have hm:=lJ r hx
 have h0:=(Bt r.hp hm hr (Z:=λ_=>False) (λ_ h=>h.elim) (.inr λ_ _ _ _ _ h=>h)).2
 obtain⟨A,c,h1,h2,h3⟩:=Rd.aBD (show Rd w _ [] (a.eval x) (.slice (U.K τ) (l.map (U.enc τ))) from h0)
 rw[bl] at h1 h2
 refine⟨_,λw' _=>hrun A c h1 h2 o ho w',bAp r hr hs hm rfl λZ hZ=> ?_⟩
 rw[h1] at hZ
 rw[hf,fp,List.map_take]
 exact hZ.sub hab (by rw[bl];exact hb)
def aTe (hTI:oO P TI=true)(r:bE Y.C E s a w β){t:TypeId}{x:Operand}{lo hi:Option Operand}{K:Sv U->Option α}{z:α}(h:Qu Y TI s (.slice t x lo hi none) K=some z):∃y,K y=some z/\MO P Y.C E s a w β (.slice t x lo hi none) y:=by
 simp only[Qu] at h
 split at h
 ·rename_i i k zz str h1 h2
  have ht:=(Fg (bP hTI h1) rfl).1
  split at h
  ·rename_i hh
   split at h
   ·rename_i n hn
    obtain⟨hg,h⟩:=jN h
    obtain⟨kk,hn⟩:=mI hn
    exact⟨_,h,aQz r λ_=>bO3 hg ht (vY h2) (dC hn)⟩
   ·cases h
  ·rename_i ll
   split at h
   ·rename_i n hn
    obtain⟨hg,h⟩:=jN h
    obtain⟨kk,hn⟩:=mI hn
    exact⟨_,h,aQz r λ_=>bO4 hg ht (vY h2) (dC hn)⟩
   ·cases h
  ·rename_i ll hh
   split at h
   ·rename_i m n hm hn
    obtain⟨hg,h⟩:=jN h
    obtain⟨kk,hn⟩:=mI hn
    obtain⟨kk',hm⟩:=mI hm
    exact⟨_,h,aQz r λ_=>bO2 hg ht (vY h2) (dC hm) (dC hn)⟩
   ·cases h
  ·cases h
 ·rename_i e ek eb k zz p h1 h2
  have hsl:=(yS (bP hTI h1) rfl).1
  obtain⟨hu,ii,zz',hii,hz,hik,hib,hzk,hk0⟩:=eX hsl
  split at h
  ·rename_i τ l hr
   cases hoe:Fa (U:=U) e ek τ with
   |false=>simp[hoe] at h
   |true=>
    simp only[hoe,ae] at h
    simp only[Fa,aa] at hoe
    have he:e=τ:=ah hoe.1
    have hk:U.K τ=ek:=ah hoe.2
    subst he
    split at h
    ·split at h
     ·rename_i p' hs
      refine⟨_,h,aQ0 r h2 hr hs 0 l.length (cw _) (aj _) (by simp) λA c hA hc o ho w'=> ?_⟩
      simp[execOp,ho,hA,Instr.sliceAt,Instr.slice,run_underlying hu,Instr.sliceBounds,Instr.sliceBound,asIntOf,sizeOf,typeInfo,hii,hc]
     ·cases h
    ·rename_i hh
     split at h
     ·rename_i n p' hn hs
      obtain⟨hg,h⟩:=jN h
      rw[hn] at hs
      obtain⟨kk,hn'⟩:=mI hn
      have hnv:a.eval hh= .int kk n:=(lJ r hn').1
      refine⟨_,h,aQ0 r h2 hr hs 0 n.toNat (cw _) hg.2 (by simp) λA c hA hc o ho w'=> ?_⟩
      have e1:(0<=n/\n<=(c:Int)):=⟨hg.1,by have:=hg.2;have:=hg.1;omega⟩
      simp[execOp,ho,hA,hnv,Instr.sliceAt,Instr.slice,run_underlying hu,Instr.sliceBounds,Instr.sliceBound,asIntOf,e1,sizeOf,typeInfo,hii]
     ·cases h
    ·rename_i bb
     split at h
     ·rename_i n p' hn hs
      obtain⟨hg,h⟩:=jN h
      rw[hn] at hs
      obtain⟨kk,hn'⟩:=mI hn
      have hnv:a.eval bb= .int kk n:=(lJ r hn').1
      refine⟨_,h,aQ0 r h2 hr hs n.toNat l.length hg.2 (aj _) (by simp) λA c hA hc o ho w'=> ?_⟩
      have e1:(0<=n/\n<=(l.length:Int)):=⟨hg.1,by have:=hg.2;have:=hg.1;omega⟩
      simp[execOp,ho,hA,hnv,Instr.sliceAt,Instr.slice,run_underlying hu,Instr.sliceBounds,Instr.sliceBound,asIntOf,e1,sizeOf,typeInfo,hii,hik,hk]
     ·cases h
    ·rename_i bb hh
     split at h
     ·rename_i n m p' hn hm hs
      obtain⟨hg,h⟩:=jN h
      rw[hn,hm] at hs
      obtain⟨kk,hn'⟩:=mI hn
      obtain⟨kk',hm'⟩:=mI hm
      have hnv:a.eval bb= .int kk n:=(lJ r hn').1
      have hmv:a.eval hh= .int kk' m:=(lJ r hm').1
      obtain⟨g1,g2,g3,g4⟩:=hg
      refine⟨_,h,aQ0 r h2 hr hs n.toNat m.toNat (by omega) g4 (by simp) λA c hA hc o ho w'=> ?_⟩
      have e1:(0<=m/\m<=(c:Int)):=⟨g3,by omega⟩
      have e2:(0<=n/\n<=((m.toNat:Nat):Int)):=⟨g1,by omega⟩
      simp[execOp,ho,hA,hnv,hmv,Instr.sliceAt,Instr.slice,run_underlying hu,Instr.sliceBounds,Instr.sliceBound,asIntOf,e1,e2,sizeOf,typeInfo,hii,hik,hk]
      intro hh;exfalso;omega
     ·cases h
  ·cases h
 ·cases h
end
end Go.EV

namespace Go.EV
open Go.RowKit Go.VK
variable {U:Uni} {Y:Lay U} {TI:List (Nat×TInfo)} {P:Program} {g:GI} {E:Env U g}
section
variable {s:St U} {a:Act} {w:World} {β:List Tr} {α:Type}
def bHh (r:bE Y.C E s a w β){x y:Operand}{c:Nat}{k:IntKind}{m n:Int}{t u:TypeId}(hc:sG s x= .l (.nat c))(hx:dS s x= .l (.int k m))(hy:dS s y= .l (.int k n)):MO P Y.C E s a w β (.binOp .lss t x y u) (.l (.lt c n)):=λo ho=>by
 obtain⟨v,h1,h2⟩:=mH (P:=P) r (λ_=>lss (t:=t) (u:=u) (dC hx) (dC hy)) o ho
 refine⟨v,h1,?_⟩
 have hm:=iZ r (x:=x)
 rw[hc] at hm
 obtain⟨i,f,k1,k2,k3⟩:=hm
 have hk:k= .i64/\m=(i:Int):=by
  have:=(lJ r hx).1
  rw[k2] at this;injection this with e1 e2;exact⟨e1.symm,e2.symm⟩
 obtain⟨rfl,rfl⟩:=hk
 have hn:=(lJ r hy).2.2
 exact⟨i,f,k1,h2,by simpa[IntKind.max,IntKind.signed,IntKind.bits] using hn⟩
def bDx (r:bE Y.C E s a w β){t:TypeId}{e ek eb:Nat}(hsl:slB P t e ek eb=true){x y:Operand}{i q0:Nat}{τ:Nat}{d:Bool}{l:List (U.El τ)}{rv cv:Nat}{k:IntKind}{q:Int}{z:U.El τ}(hx:dS s x= .l (.own i q0))(hy:dS s y= .l (.int k q))
  (ho:s.m.o[i]? =some ⟨.tree τ d l,rv,cv⟩) (hr:rv=q0) (hk:U.K τ=ek) (hz:bA l q=some z):MO P Y.C E s a w β (.indexAddr t x y) (.l (.oel i cv τ q z 0)):=λo hop=>by
 obtain⟨hu,ii,zz,hii,hzz,hik,hib,hzk,hk0⟩:=eX hsl
 obtain⟨h0,hq⟩:=Kq hz
 have hm:=lJ r hx
 obtain⟨_,e',t',k1,k2,k3⟩:=hm
 rw[ho] at k1;injection k1 with k1;subst k1
 have hv:=k3 hr
 have hyv:a.eval y= .int k q:=(lJ r hy).1
 have hok:=r.hp.ok i t' _ k2 ho
 obtain⟨_,xs,c1,_⟩:=hok
 have hlt:q.toNat<l.length:=lt_of_some hq
 rcases dO c1 with⟨_,b2,_⟩|⟨b,cur,b1,b2,_⟩
 ·omega
 ·have hval:a.eval x= .slice (some ⟨b,0,none⟩) l.length t'.c:=by rw[hv];simp[Tr.val,b1,b2]
  refine⟨.pointer (some (Addr.add ⟨b,0,none⟩ (q.toNat*ek))),λw' _=> ?_,⟨⟨(r.hp.vers i _ ho).2,rfl⟩,⟨.tree τ d l,rv,cv⟩,t',ho,k2,λ_=>⟨d,l,b,rfl,h0,hq,b1,?_⟩⟩⟩
  ·have hmn:q.toNat<l.length:=hlt
   simp[execOp,hop,hval,hyv,Instr.indexAt,asIntOf,run_underlying hu,sizeOf,typeInfo,hii,hik,h0,hmn]
   intro hh;exfalso;omega
  ·rw[fC,hk];simp
def bDy (r:bE Y.C E s a w β){t:TypeId}{e ek eb:Nat}(hsl:slB P t e ek eb=true){x y:Operand}{i c j τ τ' τ1:Nat}{q q':Int}{z:U.El τ}{l:List (U.El τ')}{L:List (U.El τ1)}{rv cv:Nat}{k:IntKind}{z':U.El τ'}(hx:dS s x= .l (.inn i c τ q z j τ' l))(hy:dS s y= .l (.int k q'))
  (ho:s.m.o[i]? =some ⟨.tree τ1 true L,rv,cv⟩) (hr:cv=c) (hk:U.K τ'=ek) (hz:bA l q'=some z'):MO P Y.C E s a w β (.indexAddr t x y) (.l (.oin i c τ q z j τ' l q' z' 0)):=λo hop=>by
 obtain⟨hu,ii,zz,hii,hzz,hik,hib,hzk,hk0⟩:=eX hsl
 obtain⟨h0,hq⟩:=Kq hz
 obtain⟨g0,e',t',k1,k2,k3⟩:=lJ r hx
 rw[ho] at k1;injection k1 with k1;subst k1
 obtain⟨d,L1,xs,a1,a2,a3,a4,a5,a6⟩:=k3 hr
 injection a1 with e1 e2 e3;subst e1;subst e2;obtain rfl:=ez e3
 have hyv:a.eval y= .int k q':=(lJ r hy).1
 obtain⟨u,ys,b1,b2,b3,b4⟩:=aYs r.hp k2 ho rfl a3 a4 a5 a6
 have hlt:q'.toNat<l.length:=lt_of_some hq
 rcases dO b2 with⟨_,c2,_⟩|⟨b,cur,c1,c2,_⟩
 ·omega
 ·have hval:a.eval x= .slice (some ⟨b,0,none⟩) l.length u.c:=by rw[b1];simp[Tr.val,c1,c2]
  refine⟨.pointer (some (Addr.add ⟨b,0,none⟩ (q'.toNat*ek))),λw' _=> ?_,⟨⟨g0.1,rfl⟩,_,t',ho,k2,λ_=>⟨_,xs,_,b,_,_,rfl,a2,a3,a4,a5,a6,hval,h0,hq,?_⟩⟩⟩
  ·have hmn:q'.toNat<l.length:=hlt
   simp[execOp,hop,hval,hyv,Instr.indexAt,asIntOf,run_underlying hu,sizeOf,typeInfo,hii,hik,h0,hmn]
   intro hh;exfalso;omega
  ·rw[fC,hk];simp
def bDz (hTI:oO P TI=true)(r:bE Y.C E s a w β){ta tb:TypeId}{x:Operand}{ek eb k1 k2 k3:Nat}{z1 z2 z3:List Kz}{p:Lf U}{l:List (U.El Y.bt)}(h1:iE TI ta=some ⟨.sl Y.bt ek eb,k1,z1⟩)(h2:iE TI tb=some ⟨.str,k2,z2⟩)(h4:iE TI Y.bt=some ⟨.int .u8,k3,z3⟩)
  (hx:dS s x= .l p) (hr:qA s.m p=some (.sl Y.bt l)) (hg:l.length<=68719476736):MO P Y.C E s a w β (.convert ta tb x) (.l (.str (bAg (l.map Y.bi)))):=by
 have hK:U.K Y.bt=1:=by rw[<-Y.C.hlen Y.bt (Y.be 0),Y.hb];rfl
 have henc:∀x,U.enc Y.bt x=[V.int .u8 (Y.bi x)]:=λx=>by rw[<-Y.C.hcel,Y.hb];rfl
 have hmap:l.map (U.enc Y.bt)=(l.map Y.bi).map λn=>[V.int .u8 n]:=by rw[gz];exact gh λx _=>henc x
 refine aS5 r false (λE'=>b2s (eX (yS (bP hTI h1) rfl).1).1 (Kv (bP hTI h4) rfl).1 (Fg (bP hTI h2) rfl).1 (ns:=l.map Y.bi) (by rw[bl];unfold maxLen;omega) ?_) λv hv=>bJk hv
 have:=bJj (E':=E') hx hr
 rw[hK,hmap] at this
 exact this
def aTf {α:Type}{q:Int}{F:Nat->Option α}{z:α}:∀{n:Nat},brA q F n=some z->∃j,j<n/\q=(j:Int)/\F j=some z
 |0,h=>by cases h
 |n+1,h=>by
  have h:(bif decide (q=(n:Int)) then F n else brA q F n)=some z:=h
  by_cases hq:q=(n:Int)
  ·rw[ao hq] at h;exact⟨n,dq _,hq,h⟩
  ·rw[au hq] at h
   obtain⟨j,h1,h2,h3⟩:=aTf h
   exact⟨j,by omega,h2,h3⟩
def Vf (hTI:oO P TI=true)(r:bE Y.C E s a w β){op:Op}{K:Sv U->Option α}{z:α}(h:Qu Y TI s op K=some z):∃x,K x=some z/\MO P Y.C E s a w β op x:=by
 unfold Qu at h
 split at h
 ·rename_i b t x y u
  generalize hx:dS s x=vx at h
  generalize hy:dS s y=vy at h
  split at h
  ·rename_i k m k' n
   split at h
   ·split at h
    ·rename_i he;subst he
     split at h
     ·rename_i c hc;exact⟨_,h,bHh r hc hx hy⟩
     ·exact⟨_,h,mH r λ_=>lss (dC hx) (dC hy)⟩
    ·cases h
   ·split at h
    ·rename_i he;subst he
     obtain⟨hg,h⟩:=jN h
     exact⟨_,h,kE r λ_=>quo hg (dC hx) (dC hy)⟩
    ·cases h
   ·split at h
    ·rename_i he;subst he
     obtain⟨hg,h⟩:=jN h
     exact⟨_,h,kE r λ_=>rem hg (dC hx) (dC hy)⟩
    ·cases h
   ·obtain⟨hg,h⟩:=jN h
    exact⟨_,h,kE r λ_=>bOz hg (dC hx) (dC hy)⟩
   ·obtain⟨hg,h⟩:=jN h
    exact⟨_,h,kE r λ_=>bO0 hg (dC hx) (dC hy)⟩
   ·split at h
    ·rename_i he;subst he
     split at h
     ·rename_i z' hz;exact⟨_,h,aHo r hx hy hz⟩
     ·cases h
    ·cases h
  ·rename_i m n
   split at h
   ·obtain⟨hg,h⟩:=jN h
    exact⟨_,h,aQz r λ_=>bOq hg (vY hx) (vY hy)⟩
   ·split at h
    ·rename_i z' hz;exact⟨_,h,aHp r hx hy hz⟩
    ·cases h
  ·split at h
   ·rename_i z' hz
    refine⟨_,h,bAo hTI r ?_⟩
    rw[hx,hy];exact hz
   ·cases h
 ·rename_i t x y
  split at h
  ·rename_i e ek eb k zz p kk q h1 h2 h3
   have hsl:=(yS (bP hTI h1) rfl).1
   split at h
   ·rename_i τ l
    cases hoe:Fa (U:=U) e ek τ with
    |false=>simp[hoe] at h
    |true=>
     simp only[hoe,ae] at h
     simp only[Fa,aa] at hoe
     have he:e=τ:=ah hoe.1
     have hk:U.K τ=ek:=ah hoe.2
     subst he;subst hk
     obtain⟨c,hc,h⟩:=iP h
     refine⟨_,h,aS5 r true (λ_=>ixq hc hsl (bNd h2) (dC h3 true)) λv hv=> ?_⟩
     show Rd w (E.X β) [] v (.elem ((U.enc e c).drop 0))
     rw[gk]
     exact hv.conv (aj _) (λb _ hb=>⟨rfl,hb⟩) (λ_ _ _ h=>h) (λ_ _ h=>h)
   ·rename_i i q0
    split at h
    ·rename_i τ d l rv cv ho
     rw[aR] at ho
     cases hoe:(Nat.beq rv q0&&Fa (U:=U) e ek τ) with
     |false=>rw[hoe] at h;cases h
     |true=>
      rw[hoe] at h
      simp only[ae] at h
      simp only[Fa,aa] at hoe
      obtain⟨c,hc,h⟩:=iP h
      exact⟨_,h,bDx r hsl h2 h3 ho (ah hoe.1) (ah hoe.2.2) hc⟩
    ·cases h
   ·rename_i i c τ q0 z j τ' l
    split at h
    ·rename_i τ1 d L rv cv ho
     rw[aR] at ho
     cases hoe:(d&&(Nat.beq cv c&&Fa (U:=U) e ek τ')) with
     |false=>rw[hoe] at h;cases h
     |true=>
      rw[hoe] at h
      simp only[ae] at h
      simp only[Fa,aa] at hoe
      obtain⟨c',hc,h⟩:=iP h
      obtain⟨rfl,hoe⟩:=hoe
      exact⟨_,h,bDy r hsl h2 h3 ho (ah hoe.1) (ah hoe.2.2) hc⟩
    ·cases h
   ·cases h
  ·rename_i k zz b0 off kk q h1 h2 h3
   obtain⟨j,hj,hq,h'⟩:=aTf h
   subst hq
   clear h
   split at h'
   ·rename_i y' hz
    rcases(A8 (bP hTI h1) rfl).2.2 with⟨hne,_⟩|⟨_,har⟩
    ·exact absurd rfl hne
    ·obtain⟨v',q1,q2⟩:=aQx r kk har hj (lJ r h2) hz
     have hv:a.eval y= .int kk (j:Int):=(lJ r h3).1
     exact⟨_,h',λo ho=>⟨v',λw' _=>by simp[execOp,ho,hv,q1],q2⟩⟩
   ·cases h'
  ·cases h
 ·rename_i t x y
  split at h
  ·rename_i k zz z' kk q h1 h2 h3
   obtain⟨c,hc,h⟩:=iP h
   exact⟨_,h,kE r λ_=>bO1 hc (Fg (bP hTI h1) rfl).1 (vY h2) (dC h3)⟩
  ·cases h
 ·exact aTe hTI r (by unfold Qu;exact h)
 ·rename_i ta tb x
  split at h
  ·rename_i e ek eb k1 z1 k2 z2 p h1 h2 h3
   split at h
   ·rename_i τ l k3 z3 hr h4
    split at h
    ·rename_i l' hs
     obtain⟨rfl,hl⟩:=lN hs
     have hl:=ez hl;subst hl
     cases hb:Nat.beq e Y.bt with
     |false=>rw[hb] at h;cases h
     |true=>
      rw[hb] at h
      obtain⟨hg,h⟩:=jN h
      have he:=ah hb
      subst he
      refine⟨_,h,bDz hTI r h1 h2 h4 h3 hr hg⟩
    ·cases h
   ·cases h
  ·split at h
   ·rename_i x' hx
    exact⟨x',h,aOc hTI r hx⟩
   ·cases h
 ·split at h
  ·rename_i x hx
   exact⟨x,h,aOc hTI r hx⟩
  ·cases h
def bD0 (hTI:oO P TI=true)(r:bE Y.C E s a w β){t:TypeId}{x b:Operand}{e ek eb k i q0 τ:Nat}{zz:List Kz}{d:Bool}{l:List (U.El τ)}{rv cv:Nat}{n:Int}(h1:iE TI t=some ⟨.sl e ek eb,k,zz⟩)(h2:dS s x= .l (.own i q0))(h3:uB (dS s b)=some n)
  (ho:s.m.o[i]? =some ⟨.tree τ d l,rv,cv⟩) (hr:rv=q0) (hk:U.K τ=ek) (hg:jH l n):MO P Y.C E s a w β (.slice t x (some b) none none) (.l (.suf i cv τ n l)):=λo hop=>by
 obtain⟨hu,ii,zz',hii,hz,hik,hib,hzk,hk0⟩:=eX (yS (bP hTI h1) rfl).1
 obtain⟨kk,hn⟩:=mI h3
 have hnv:a.eval b= .int kk n:=(lJ r hn).1
 obtain⟨_,e',t',k1,k2,k3⟩:=lJ r h2
 rw[ho] at k1;injection k1 with k1;subst k1
 have hv:=k3 hr
 obtain⟨_,xs,c1,_⟩:=r.hp.ok i t' _ k2 ho
 have hlen:t'.n=l.length/\l.length<=t'.c:=by
  rcases dO c1 with⟨_,b2,_,b4,b5⟩|⟨b,cur,b1,b2,b3,_⟩
  ·omega
  ·exact⟨b2,b3⟩
 refine⟨aAf (U.K τ) t' n.toNat l.length,λw' _=> ?_,⟨⟨(r.hp.vers i _ ho).2,rfl⟩,_,t',ho,k2,λ_=>⟨d,rfl,hg.1,hg.2,rfl⟩⟩⟩
 have e1:(0<=n/\n<=(l.length:Int)):=⟨hg.1,by have:=hg.2;have:=hg.1;omega⟩
 simp[execOp,hop,hv,Tr.val,hlen.1,hnv,Instr.sliceAt,Instr.slice,run_underlying hu,Instr.sliceBounds,Instr.sliceBound,asIntOf,e1,sizeOf,typeInfo,hii,hik,hk,aAf]
end
end Go.EV

namespace Go.EV
open Go.RowKit Go.VK
variable {U:Uni} {Y:Lay U} {TI:List (Nat×TInfo)} {P:Program} {g:GI} {E:Env U g} {C:Cod U}
def lQ:∀{l:List Nat} {i:Nat},Fb i l=true↔i∈l
 |[],i=>by simp[Fb]
 |x::l,i=>by
  have e:Fb i (x::l)=cond (Nat.beq x i) true (Fb i l):=rfl
  rw[e,ba]
  cases hb:Nat.beq x i with
  |true=>simp[(ah hb).symm]
  |false=>simp only[ab];rw[lQ];exact⟨.inr,λh=>h.resolve_left (λe=>by rw[e,show Nat.beq x x=true from dn x] at hb;cases hb)⟩
def wB:∀{l:List Nat},dist l=true↔l.Nodup
 |[]=>by simp[dist]
 |x::l=>by
  have e:dist (x::l)=cond (Fb x l) false (dist l):=rfl
  rw[e,cu,<-wB (l:=l),<-lQ (l:=l)]
  cases Fb x l<;>simp
def Fh {k:Nat}:∀{ids:List Nat} {o:List (EO U)},(Qg k ids o).length=o.length
 |[],o=>rfl
 |i::ids,o=>by
  have e:Qg k (i::ids) o=upd (Qg k ids o) i ⟨.dead,k,k⟩:=rfl
  rw[e,bX,ax,Fh]
def aAo {k:Nat}:∀{ids:List Nat} {o:List (EO U)} {j:Nat},j∈ids->j<o.length->(Qg k ids o)[j]? =some ⟨.dead,k,k⟩
 |[],o,j,h,_=>by simp at h
 |i::ids,o,j,h,hj=>by
  have e:Qg k (i::ids) o=upd (Qg k ids o) i ⟨.dead,k,k⟩:=rfl
  rw[e,bX]
  by_cases hij:i=j
  ·subst hij;rw[bh (by rw[Fh];exact hj)]
  ·rw[bj hij];exact aAo (by rcases ba.1 h with h|h;exact absurd h.symm hij;exact h) hj
def uZ {k:Nat}:∀{ids:List Nat} {o:List (EO U)} {j:Nat},j∉ids->(Qg k ids o)[j]? =o[j]?
 |[],o,j,_=>rfl
 |i::ids,o,j,h=>by
  have e:Qg k (i::ids) o=upd (Qg k ids o) i ⟨.dead,k,k⟩:=rfl
  rw[e,bX,bj (λe=>h (by simp[e])),uZ (λhh=>h (by simp[hh]))]
def aAp:Tr:=⟨none,0,0,[]⟩
def nC:aAp.all=[]:=rfl
def aTg:List Nat->List Tr->List Tr
 |[],β=>β
 |i::ids,β=>(aTg ids β).set i aAp
def aHq:∀{ids:List Nat} {β:List Tr},(aTg ids β).length=β.length
 |[],_=>rfl
 |i::ids,β=>by simp[aTg,aHq]
def aYw:∀{ids:List Nat} {β:List Tr} {j:Nat},j∈ids->j<β.length->(aTg ids β)[j]? =some aAp
 |[],_,j,h,_=>by simp at h
 |i::ids,β,j,h,hj=>by
  simp only[aTg]
  by_cases hij:i=j
  ·subst hij;rw[bh (by rw[aHq];exact hj)]
  ·rw[bj hij];exact aYw (by rcases ba.1 h with h|h;exact absurd h.symm hij;exact h) hj
def aHr:∀{ids:List Nat} {β:List Tr} {j:Nat},j∉ids->(aTg ids β)[j]? =β[j]?
 |[],_,j,_=>rfl
 |i::ids,β,j,h=>by
  simp only[aTg]
  rw[bj (λe=>h (by simp[e])),aHr (λhh=>h (by simp[hh]))]
section
variable {s:St U} {a:Act} {w w':World} {β:List Tr}
def bE.add (r:bE C E s a w β)(he:Ext w w')(bs:List (EO U×Tr))(hv:∀x∈bs,x.1.rv<=s.m.k/\x.1.cv<=s.m.k)(hb:∀x∈bs,∀b∈x.2.all,w.heap.size<=b/\b<w'.heap.size)
  (hnd:((bs.map λx=>x.2.all).flatten).Nodup)
  (hok:Evo w w' (E.X β) (E.X (β++bs.map (·.2))) β (β++bs.map (·.2)) s.m ⟨s.m.o++bs.map (·.1),s.m.k,s.m.ns⟩ s.m.o.length s.m.ns.length s.m.k->∀x∈bs,x.1.ob.ok C w' (E.X (β++bs.map (·.2))) (β++bs.map (·.2)) ⟨s.m.o++bs.map (·.1),s.m.k,s.m.ns⟩ x.2):
  bE C E ⟨s.t,⟨s.m.o++bs.map (·.1),s.m.k,s.m.ns⟩,s.fr⟩ a w' (β++bs.map (·.2)):=by
 have hlen:=r.hp.len
 have hget:∀(j:Nat) (t:Tr),s.m.o.length<=j->(β++bs.map (·.2))[j]? =some t->∃x,bs[j-s.m.o.length]? =some x/\t=x.2:=λj t hj ht=>by
  rw[ay (by omega),hlen,bg] at ht
  cases hx:bs[j-s.m.o.length]? with
  |none=>simp[hx] at ht
  |some x=>simp only[hx,cJ,ai] at ht;exact⟨x,rfl,ht.symm⟩
 have hgeto:∀(j:Nat) (e:EO U),s.m.o.length<=j->(s.m.o++bs.map (·.1))[j]? =some e->∃x,bs[j-s.m.o.length]? =some x/\e=x.1:=λj e hj ht=>by
  rw[ay hj,bg] at ht
  cases hx:bs[j-s.m.o.length]? with
  |none=>simp[hx] at ht
  |some x=>simp only[hx,cJ,ai] at ht;exact⟨x,rfl,ht.symm⟩
 have hF:∀{j:Nat},(False\/s.m.o.length<=j)->s.m.o.length<=j:=λh=>h.resolve_left id
 have hpw:∀(i j:Nat) (x y:EO U×Tr) (b:Nat),i≠j->bs[i]? =some x->bs[j]? =some y->b∈x.2.all->b∉y.2.all:=λi j x y b hij hx hy hbx hby=>by
  have hp:=(gS.1 hnd).2
  rw[gm] at hp
  have:=dm.1 hp
  obtain⟨l1,e1⟩:=aE.1 hx
  obtain⟨l2,e2⟩:=aE.1 hy
  rcases Nat.lt_or_gt_of_ne hij with h|h
  ·exact this i j l1 l2 h b (by rw[e1];exact hbx) b (by rw[e2];exact hby) rfl
  ·exact this j i l2 l1 h b (by rw[e2];exact hby) b (by rw[e1];exact hbx) rfl
 obtain⟨h1,h2⟩:=r.hp.step (s':=⟨s.m.o++bs.map (·.1),s.m.k,s.m.ns⟩) (β':=β++bs.map (·.2)) (w':=w') (λ_=>False) (λ_=>False) (aj _) (λ_ _ f h=>⟨f,h⟩) r.hp.cnt (by simp[hlen]) (by simp) he.size he.os he.tape he.output
  (λb hb _=>he.block b hb) (λ_ h=>h.elim) (λi _ hi=>⟨by rw[aq hi],by rw[aq (by rw[hlen];exact hi)]⟩)
  (λj t b hj ht hbt=>by
   obtain⟨x,hx,rfl⟩:=hget j t (hF hj) ht
   have:=hb x (az hx) b hbt
   exact⟨this.2, .inl this.1⟩)
  (λi j t u b hi hj hij ht hu hbt hbu=>by
   obtain⟨x,hx,rfl⟩:=hget i t (hF hi) ht
   obtain⟨y,hy,rfl⟩:=hget j u (hF hj) hu
   exact hpw _ _ x y b (by have:=hF hi;have:=hF hj;omega) hx hy hbt hbu)
  (λj t hj ht=>by
   obtain⟨x,hx,rfl⟩:=hget j t (hF hj) ht
   exact(gS.1 hnd).1 _ (cg.2 ⟨x,az hx,rfl⟩))
  (λj e hj he'=>by
   obtain⟨x,hx,rfl⟩:=hgeto j e (hF hj) he'
   exact hv x (az hx))
  (λ_ _ _ _ _ h=>h.elim)
  (λhev j t e hj ht he'=>by
   obtain⟨x,hx,rfl⟩:=hget j t (hF hj) ht
   obtain⟨y,hy,rfl⟩:=hgeto j e (hF hj) he'
   rw[hx] at hy;injection hy with hy;subst hy
   exact hok hev x (az hx))
 exact r.go h1 h2
def bE.turn (r:bE C E s a w β){i:Nat}{J:List Nat}{e:EO U}{t t':Tr}{ob:Ob U}{rv:Nat}(hi:s.m.o[i]? =some e)(ht:β[i]? =some t)(hJ:(i::J).Nodup)
  (hsz:w.heap.size<=w'.heap.size) (hos:w'.os=w.os) (htape:w'.tape=w.tape) (hout:w'.output=w.output) (hheap:∀b,b<w.heap.size->b∉t.all->w'.heap[b]? =w.heap[b]?)
  (hnew:∀b∈t'.all,b<w'.heap.size/\(w.heap.size<=b\/b∈t.all\/∃j∈J,∃u,β[j]? =some u/\b∈u.all)) (hnd:t'.all.Nodup) (hrv:(rv=e.rv/\t'.val=t.val)\/rv=s.m.k+1)
  (hbox:ob.aAX=true->e.ob.aAX=true/\t'.b=t.b)
  (hok:∀(β':List Tr) (m':Mm U),Evo w w' (E.X β) (E.X β') β β' s.m m' s.m.o.length s.m.ns.length s.m.k->ob.ok C w' (E.X β') β' m' t'):
  ∃β',bE C E ⟨s.t,⟨Qg (s.m.k+1) J (upd s.m.o i ⟨ob,rv,s.m.k+1⟩),s.m.k+1,s.m.ns⟩,s.fr⟩ a w' β'/\β'[i]? =some t'/\Evo w w' (E.X β) (E.X β') β β' s.m ⟨Qg (s.m.k+1) J (upd s.m.o i ⟨ob,rv,s.m.k+1⟩),s.m.k+1,s.m.ns⟩ s.m.o.length s.m.ns.length s.m.k:=by
 have hiJ:i∉J:=(cu.1 hJ).1
 have hil:i<s.m.o.length:=lt_of_some hi
 have hlen:=r.hp.len
 let o':=Qg (s.m.k+1) J (upd s.m.o i ⟨ob,rv,s.m.k+1⟩)
 let β':=aTg J (β.set i t')
 have hol:o'.length=s.m.o.length:=by simp only[o',Fh,bX,ax]
 have hbl:β'.length=β.length:=by simp only[β',aHq,ax]
 have ho_i:o'[i]? =some ⟨ob,rv,s.m.k+1⟩:=by simp only[o'];rw[uZ hiJ,bX,bh hil]
 have hb_i:β'[i]? =some t':=by simp only[β'];rw[aHr hiJ,bh (by rw[hlen];exact hil)]
 have ho_J:∀j∈J,j<s.m.o.length->o'[j]? =some ⟨.dead,s.m.k+1,s.m.k+1⟩:=λj hj hl=>aAo hj (by rw[bX,ax];exact hl)
 have hb_J:∀j∈J,j<s.m.o.length->β'[j]? =some aAp:=λj hj hl=>aYw hj (by rw[ax,hlen];exact hl)
 have ho_n:∀j,j≠i->j∉J->o'[j]? =s.m.o[j]? :=λj h1 h2=>by simp only[o'];rw[uZ h2,bX,bj (Ne.symm h1)]
 have hb_n:∀j,j≠i->j∉J->β'[j]? =β[j]? :=λj h1 h2=>by simp only[β'];rw[aHr h2,bj (Ne.symm h1)]
 have hcase:∀j,((j=i\/j∈J)\/s.m.o.length<=j)->j=i\/(j∈J/\j<s.m.o.length)\/s.m.o.length<=j:=λj h=>by
  rcases h with(h|h)|h
  ·exact .inl h
  ·by_cases hl:j<s.m.o.length
   ·exact .inr (.inl ⟨h,hl⟩)
   ·exact .inr (.inr (by omega))
  ·exact .inr (.inr h)
 have htr:∀(j:Nat) (u:Tr),((j=i\/j∈J)\/s.m.o.length<=j)->β'[j]? =some u->(j=i/\u=t')\/u=aAp:=λj u h hu=>by
  rcases hcase j h with rfl|⟨h1,h2⟩|h1
  ·rw[hb_i] at hu;injection hu with hu;exact .inl ⟨rfl,hu.symm⟩
  ·rw[hb_J j h1 h2] at hu;injection hu with hu;exact .inr hu.symm
  ·have:=lt_of_some hu;omega
 obtain⟨h1,h2⟩:=r.hp.step (s':=⟨o',s.m.k+1,s.m.ns⟩) (β':=β') (w':=w') (λj=>j=i\/j∈J) (λb=>b∈t.all\/∃j∈J,∃u,β[j]? =some u/\b∈u.all) (eo _) (λ_ _ f h=>⟨f,h⟩) r.hp.cnt (by rw[hbl,hol,hlen]) (by rw[hol];exact aj _) hsz hos htape hout
  (λb hb hn=>hheap b hb (λh=>hn (.inl h)))
  (λb hb=>by
   rcases hb with hb|⟨j,hj,u,hu,hub⟩
   ·exact⟨i,t, .inl rfl,ht,hb⟩
   ·exact⟨j,u, .inr hj,hu,hub⟩)
  (λj hj _=>⟨ho_n j (λe=>hj (.inl e)) (λe=>hj (.inr e)),hb_n j (λe=>hj (.inl e)) (λe=>hj (.inr e))⟩)
  (λj u b hj hu hb=>by
   rcases htr j u hj hu with⟨_,rfl⟩|rfl
   ·obtain⟨q1,q2⟩:=hnew b hb
    refine⟨q1,q2.imp id λq=> ?_⟩
    rcases q with q|⟨j',hj',u',hu',hub'⟩
    ·exact⟨i,t, .inl rfl,ht,q⟩
    ·exact⟨j',u', .inr hj',hu',hub'⟩
   ·simp[nC] at hb)
  (λj j' u u' b hj hj' hjj hu hu' hb hb'=>by
   rcases htr j u hj hu with⟨e1,rfl⟩|rfl
   ·rcases htr j' u' hj' hu' with⟨e2,rfl⟩|rfl
    ·exact hjj (e1.trans e2.symm)
    ·simp[nC] at hb'
   ·simp[nC] at hb)
  (λj u hj hu=>by
   rcases htr j u hj hu with⟨_,rfl⟩|rfl
   ·exact hnd
   ·rw[nC];exact fh)
  (λj e' hj he'=>by
   rcases hcase j hj with rfl|⟨q1,q2⟩|q
   ·rw[ho_i] at he';injection he' with he';subst he'
    refine⟨?_,aj _⟩
    rcases hrv with⟨h,_⟩|h
    ·have:=(r.hp.vers _ e hi).1;simp only;omega
    ·simp only;omega
   ·rw[ho_J j q1 q2] at he';injection he' with he';subst he';exact⟨aj _,aj _⟩
   ·have:=lt_of_some he';simp only at this;omega)
  (λj e0 e' u u' hj he0 he' hu hu'=>by
   rcases hj with rfl|hj
   ·rw[ho_i] at he';injection he' with he';subst he'
    rw[hi] at he0;injection he0 with he0;subst he0
    rw[ht] at hu;injection hu with hu;subst hu
    rw[hb_i] at hu';injection hu' with hu';subst hu'
    refine⟨λhle=> ?_,dq _,hbox⟩
    rcases hrv with h|h
    ·exact h
    ·simp only at hle;omega
   ·have hl:=lt_of_some he0
    rw[ho_J j hj hl] at he';injection he' with he';subst he'
    exact⟨λhle=>by simp only at hle;omega,dq _,λh=>by cases h⟩)
  (λhev j u e' hj hu he'=>by
   rcases hcase j hj with rfl|⟨q1,q2⟩|q
   ·rw[ho_i] at he';injection he' with he';subst he'
    rw[hb_i] at hu;injection hu with hu;subst hu
    exact hok _ _ hev
   ·rw[ho_J j q1 q2] at he';injection he' with he';subst he';trivial
   ·have:=lt_of_some he';simp only at this;omega)
 exact⟨β',r.go h1 h2,hb_i,h2⟩
def jM (β:List Tr)(ids:List Nat):List Nat:=(ids.map λj=>match β[j]? with|some t=>t.all|none=>[]).flatten
def vB {ids:List Nat}{b:Nat}(h:b∈jM β ids):∃j∈ids,∃u,β[j]? =some u/\b∈u.all:=by
 simp only[jM,jc,cg] at h
 obtain⟨l,⟨j,hj,rfl⟩,hb⟩:=h
 cases hu:β[j]? with
 |none=>simp[hu] at hb
 |some u=>simp only[hu] at hb;exact⟨j,hj,u,hu,hb⟩
def aQ1 (H:Hp C E s.m β w){ids:List Nat}(h:ids.Nodup):(jM β ids).Nodup:=by
 unfold jM
 refine gS.2 ⟨λl hl=> ?_,?_⟩
 ·obtain⟨j,_,rfl⟩:=cg.1 hl
  cases hu:β[j]? with
  |none=>exact fh
  |some u=>exact H.nd j u hu
 ·rw[gm]
  refine h.imp λ{j j'} hjj b hb b' hb'=> ?_
  rintro rfl
  cases hu:β[j]? with
  |none=>simp[hu] at hb
  |some u=>
   cases hu':β[j']? with
   |none=>simp[hu'] at hb'
   |some u'=>simp only[hu] at hb;simp only[hu'] at hb';exact H.dist j j' u u' b hjj hu hu' hb hb'
def D5 {i j:List Nat}:jM β (i++j)=jM β i++jM β j:=by simp[jM]
def aOd (H:Hp C E s.m β w){kd:Kd}{x y:Lf U}{ids:List Nat}{d:Bool}(h:aS0 s.m kd x=some (y,ids,d)){v:Value}(hm:x.mean C w (E.X β) β s.m v)(hK:∀τ,kd= .sl τ->0<U.K τ):Ow C w (E.X β) d v y (jM β ids):=by
 have flat:∀{x:Lf U},x.mean C w (E.X β) β s.m v->mR x=true->(∀τ l,x≠ .sl τ l)->(match qA s.m x with|some y=>some (y,([]:List Nat),true)|none=>none)=some (y,ids,d)->Ow C w (E.X β) d v y (jM β ids):=λ{x} hm hf hns h=>by
  cases hr:qA s.m x with
  |none=>simp[hr] at h
  |some y'=>
   simp only[hr,ai,cU] at h
   obtain⟨rfl,rfl,rfl⟩:=h
   have:=(Bt H hm hr (Z:=λ_=>False) (λ_ h=>h.elim) (.inl hf)).2
   have hb:jM β []=[]:=rfl
   rw[hb]
   cases x with
   |int k n=>simp only[qA,ai] at hr;subst hr;obtain⟨rfl,h1,h2⟩:=this.aAO;exact .int h1 h2
   |bool k=>simp only[qA,ai] at hr;subst hr;obtain rfl:=this.aAW;exact .bool
   |str k=>simp only[qA,ai] at hr;subst hr;obtain⟨rfl,h1⟩:=this.aAT;exact .str h1
   |nat c=>
    simp only[qA] at hr
    split at hr
    ·simp only[ai] at hr;subst hr;obtain⟨rfl,h1,h2⟩:=this.aAO;exact .int h1 h2
    ·cases hr
   |lt c n=>
    simp only[qA] at hr
    split at hr
    ·simp only[ai] at hr;subst hr;obtain rfl:=this.aAW;exact .bool
    ·cases hr
   |sl τ l=>exact absurd rfl (hns τ l)
   |own=>cases hf
   |bor=>cases hf
   |inn=>cases hf
   |_=>cases hr
 cases x with
 |nil=>
  obtain rfl:=hm
  cases kd with
  |sl τ=>
   simp only[aS0,ai,cU] at h
   obtain⟨rfl,rfl,rfl⟩:=h
   exact .sl aAp (hK τ rfl) (World.ownsRow_nil w 0 τ (U.K τ)) .n
  |_=>cases h
 |sl τ l=>
  simp only[aS0,ai,cU] at h
  obtain⟨rfl,rfl,rfl⟩:=h
  exact .fz rfl hm
 |own i q=>
  obtain⟨_,e,t,k1,k2,k3⟩:=hm
  simp only[aS0,aR,k1] at h
  obtain⟨ob,rv,cv⟩:=e
  cases ob with
  |tree τ d' l=>
   cases hb:Nat.beq rv q with
   |false=>simp[hb] at h
   |true=>
    simp only[hb,ae,ai,cU] at h
    obtain⟨rfl,rfl,rfl⟩:=h
    rw[k3 (ah hb)]
    have:=Hp.tree H k2 k1 rfl
    simpa[jM,k2] using this
  |_=>cases h
 |bor=>cases h
 |inn=>cases h
 |suf i c τ q l=>
  obtain⟨_,e,t,k1,k2,k3⟩:=hm
  simp only[aS0,aR,k1] at h
  obtain⟨ob,rv,cv⟩:=e
  cases ob with
  |tree τ' d' l'=>
   cases hb:Nat.beq cv c with
   |false=>simp[hb] at h
   |true=>
    simp only[hb,ae,ai,cU] at h
    obtain⟨rfl,rfl,rfl⟩:=h
    obtain⟨d0,a1,a2,a3,rfl⟩:=k3 (ah hb)
    injection a1 with e1 e2 e3;subst e1;subst e2;obtain rfl:=ez e3
    obtain⟨h1,xs,h2,h3⟩:=H.ok i t _ k2 k1
    have:=Ow.su rfl t q.toNat h1 a3 h2 h3.soft
    simpa[jM,k2] using this
  |_=>cases h
 |int k n=>exact flat hm rfl (by simp) h
 |bool b=>exact flat hm rfl (by simp) h
 |str b=>exact flat hm rfl (by simp) h
 |nat c=>exact flat hm rfl (by simp) h
 |lt c n=>exact flat hm rfl (by simp) h
 |_=>cases h
def Ow.fl {X:Nat->Prop}{d d':Bool}{v:Value}{x:Lf U}{B:List Nat}(h:Ow C w X d v x B)(hd:d'=true->d=true):Ow C w X d' v x B:=by
 cases d' with
 |false=>exact h.soft
 |true=>rw[hd rfl] at h;exact h
def OwL.fl {X:Nat->Prop}{d d':Bool}{v:List Value}{x:List (Lf U)}{B:List Nat}(h:OwL C w X d v x B)(hd:d'=true->d=true):OwL C w X d' v x B:=by
 cases d' with
 |false=>exact h.soft
 |true=>rw[hd rfl] at h;exact h
def Bv (H:Hp C E s.m β w):∀{ks:List Kd} {xs ys:List (Lf U)} {ids:List Nat} {d:Bool} {vs:List Value},aAg s.m ks xs=some (ys,ids,d)->Ms C w (E.X β) β s.m vs xs->(∀kd∈ks,∀τ,kd= .sl τ->0<U.K τ)->OwL C w (E.X β) d vs ys (jM β ids)
 |[],[],ys,ids,d,vs,h,hM,_=>by
  simp only[aAg,ai,cU] at h
  obtain⟨rfl,rfl,rfl⟩:=h
  have:vs=[]:=bu hM.1
  subst this;exact .n
 |[],_::_,_,_,_,_,h,_,_=>by cases h
 |_::_,[],_,_,_,_,h,_,_=>by cases h
 |kd::ks,x::xs,ys,ids,d,vs,h,hM,hK=>by
  simp only[aAg] at h
  cases h1:aS0 s.m kd x with
  |none=>simp[h1] at h
  |some q=>
   obtain⟨y,i,d1⟩:=q
   cases h2:aAg s.m ks xs with
   |none=>simp[h1,h2] at h
   |some q2=>
    obtain⟨ys',is,ds⟩:=q2
    simp only[h1,h2,ai,cU] at h
    obtain⟨rfl,rfl,rfl⟩:=h
    match vs,hM with
    |[],hM=>have:=hM.1;simp at this
    |v::vs,hM=>
     rw[D5]
     refine .c ((aOd H h1 (hM.2 0 v x rfl rfl) (hK kd (by simp))).fl (by simp;exact λh _=>h)) ((Bv H h2 ⟨by have:=hM.1;simpa using this,λi u c a b=>hM.2 (i+1) u c (by simpa using a) (by simpa using b)⟩ (λkd' hk=>hK kd' (by simp[hk]))).fl (by simp))
end
end Go.EV
