import Derived.Test.YtaaefkcjgkpckaaGreatDoorXoPv
import Derived.Test.YtaaefkcjgkpckaaGreatDoorXoM
/- Printed by wip/tools: models, walks, proofs. -/
set_option linter.unusedVariables false
set_option linter.unusedSimpArgs false
set_option maxRecDepth 100000
set_option maxHeartbeats 4000000
namespace Go.VK
open Go.RowKit Go.Proofs
noncomputable section
open EV (dL)
theorem Gy (b:D.aAD)(i:Int):qH b i=some (dH b i):=by
 unfold qH
 rw[aG (by simp)];rfl
theorem Pp (s:D.aAH):tZ s=some (jM s):=by
 unfold tZ jM
 cases bR s.Vendor 1 9<;>cases bR s.Serial 0 1000000<;>cases bE s.Seed<;>rfl
theorem Bt (a:D.aAL)(h:a.Site.size≤34359738300∧a.aAK.size≤34359738300):oF a=some (aY a):=by
 unfold oF aY Tc
 rw[aG h.1,aG h.2]
 cases a.Present<;>rfl
theorem Lr (b:D.aAD)(i:Int)(h:b.Open.length≤34359738368):sD b i=some (dC b i):=by
 unfold sD
 exact zU (l:=b.Open) (fun c=>c.Id==i) (by omega) (fun rec j hj=>by simp only[dZ hj,cond_true,aR hj,bd_s]) (fun rec=>by simp only[eD,cond_false])
theorem Gz (b:D.aAD)(i n:Int)(h:b.sz≤34359738368):qG b i n=some (dO b i n):=by
 have hl:b.Open.length≤b.sz:=by simp only[D.aAD.sz];omega
 have ha:∀(x y:List D.aAM),x.length+y.length≤34359738400→aX x y:=fun x y h=>by unfold aX;omega
 unfold qG dO
 rw[aG h,bd_s,aG h,bd_s]
 cases hb:dV b with
 |false=>rfl
 |true=>
  have h16:b.Open.length≤16:=by
   simp only[dV,Bool.and_eq_true,decide_eq_true_eq] at hb;exact hb.1.2
  cases b.Next==1000000 with
  |true=>rfl
  |false=>
   cases bR i 0 1000000 with
   |false=>rfl
   |true=>
    cases bR n 0 1000000 with
    |false=>rfl
    |true=>
     simp only[Bool.not_true,Bool.not_false,Bool.and_self,cond_false,cond_true,bd_s]
     by_cases hd:b.Open.length=16
     ·rw[show((b.Open.length:Int)==16)=true by rw[hd];rfl,show decide ((b.Open.length:Int)≥16)=true from decide_eq_true (by omega),cond_true,cond_true,aG (show kJ b.Open 1 from⟨by omega,by omega⟩),aG (ha _ _ (by simp only[List.length_nil,List.length_drop];omega)),bd_s,aG (ha _ _ (by simp only[List.nil_append,List.length_drop,List.length_cons,List.length_nil];omega))];rfl
     ·rw[show((b.Open.length:Int)==16)=false from beq_eq_false_iff_ne.2 (by omega),show decide ((b.Open.length:Int)≥16)=false from decide_eq_false (by omega),cond_false,cond_false,bd_s,aG (ha _ _ (by simp only[List.length_cons,List.length_nil];omega))];rfl
theorem Ls (b:D.aAD)(id acc now:Int)(h:b.sz≤34359738368):sF b id acc now=some (kS b id acc now):=by
 have hl:b.Open.length≤b.sz:=by simp only[D.aAD.sz];omega
 have ha:∀(x y:List D.aAM),x.length+y.length≤34359738400→aX x y:=fun x y h=>by unfold aX;omega
 unfold sF kS
 rw[aG h,bd_s,aG (show b.Open.length≤34359738368 by omega),bd_s,aG h,bd_s]
 cases dV b with
 |false=>rfl
 |true=>
  simp only[Bool.not_true,cond_false,bd_s,Bool.false_or]
  cases hf:decide (dC b id<0) with
  |true=>rfl
  |false=>
   obtain⟨h0,h1⟩:=lU (i:=0) hf
   have h0:0≤dC b id:=h0
   have h1:dC b id<(b.Open.length:Int):=by have:dC b id<0+(b.Open.length:Int):=h1;omega
   have hk:IntKind.i64.wrap (dC b id+1)=(((dC b id).toNat+1:Nat):Int):=by rw[aK (by omega) (by omega)];omega
   have hat:bT b.Open (dC b id)=some (O6 b (dC b id)):=rQ h0 h1
   rw[cond_false,cond_false,hk,hat,bd_s,aG (show kJ b.Open (dC b id) from⟨by omega,by omega⟩),aG (show kJ b.Open (((dC b id).toNat+1:Nat):Int) from⟨by omega,by omega⟩),
    aG (ha _ _ (by simp only[List.length_nil,List.length_take];omega)),aG (ha _ _ (by simp only[List.nil_append,List.length_take,List.length_drop];omega)),Int.toNat_natCast]
   cases(O6 b (dC b id)).aAF==acc<;>rfl
theorem Lt (s:D.aAH)(z:ByteArray)(i:Int)(l:List Int)(h:z.size≤34359738300∧l.length≤34359738200):rY s z i l=some (fC s z i l):=by
 unfold rY fC
 cases jM s with
 |false=>rfl
 |true=>
  simp only[Bool.not_true,cond_false,bd_s,Bool.true_and]
  cases s.Counter==1000000 with
  |true=>rfl
  |false=>
   simp only[aG h.1,bd_s,cond_false,Bool.not_false,cond_true]
   have e:oL l [[IntKind.i64.wrap (s.Counter+1)]]=l++[IntKind.i64.wrap (s.Counter+1)]:=by simp[oL]
   rw[aG (by simp[tH];omega),bd_s,e,aG (by simp only[List.length_append,List.length_cons,List.length_nil];omega)]
   rfl
theorem Zy (s:D.Site)(id now:Int)(h:s.sz≤34359738368):yT s id now=some (gT s id now):=by
 have hb:s.Book.sz≤34359738368:=by simp only[D.Site.sz,D.aAD.sz] at h ⊢;omega
 have hl:s.Accounts.length≤34359738368:=by simp only[D.Site.sz] at h;omega
 unfold yT gT
 rw[aG h,bd_s,aG h,bd_s]
 cases bL s with
 |false=>rfl
 |true=>
  simp only[Bool.not_true,cond_false,Bool.true_and]
  rw[aG hl,bd_s,bd_s]
  cases decide (aC s id<0) with
  |true=>rfl
  |false=>
   rw[cond_false,aG hb,bd_s]
   cases(dO s.Book id now).2.2<;>rfl
theorem Pq (a:D.aAF)(m:Int)(h:a.sz≤34359738368):uA a m=some (mF a m):=by
 have hl:a.Credentials.length≤34359738368:=by simp only[D.aAF.sz] at h;omega
 unfold uA mF
 rw[aG h,bd_s,mZ (l:=a.Credentials) (fun c=> !c.Cut) (.inl true) (.inr ()) (by omega) (fun rec i hi=>by simp only[dZ hi,cond_true,aR hi,bd_s]) (fun rec=>by simp only[eD,cond_false])]
 cases ha:aU a with
 |false=>rfl
 |true=>
  have h1:1≤a.Minimum:=by
   simp only[aU,bR,Bool.and_eq_true,decide_eq_true_eq] at ha;exact ha.1.1.2.1
  simp only[Bool.not_true,cond_false,bd_s,Bool.true_and]
  rw[show bR m 1 3=(decide (1≤m)&&decide (m≤3)) from rfl]
  by_cases hm:a.Minimum≤m
  ·rw[show decide (a.Minimum≤m)=true from decide_eq_true hm,show decide (1≤m)=true from decide_eq_true (by omega),show decide (m<a.Minimum)=false from decide_eq_false (by omega)]
   cases decide (m≤3)<;>try rfl
   cases hm:m==3<;>cases a.Credentials.any fun c=> !c.Cut<;>simp[hm,nx,bne]
  ·rw[show decide (a.Minimum≤m)=false from decide_eq_false hm,show decide (m<a.Minimum)=true from decide_eq_true (by omega)]
   cases decide (1≤m)<;>cases decide (m≤3)<;>rfl
theorem aCq (o:D.aAK):Fv o=some (nV o):=by
 unfold Fv nV
 cases fQ o.Host<;>rfl
theorem Ps (o:D.aAK)(h:kT o):Pe o=some (oP o):=by
 obtain⟨k,hk,rfl⟩:=h
 rcases(show k=0∨k=1∨k=2∨k=3∨k=4∨k=5 by omega) with rfl|rfl|rfl|rfl|rfl|rfl<;>kernel_rfl
theorem aJx (o:D.aAK)(z:ByteArray)(h:Ep o z):aJk o z=some (iI o z):=by
 obtain⟨⟨k,hk,rfl⟩,j,hj,rfl⟩:=h
 rcases hj with rfl|rfl<;>rcases(show k=0∨k=1∨k=2∨k=3∨k=4∨k=5 by omega) with rfl|rfl|rfl|rfl|rfl|rfl<;>kernel_rfl
theorem yZ {α β:Type}{x:Option α}{f:α→Option β}{a:α}{r:Option β}(h:x=some a)(h2:f a=r):bd x f=r:=by rw[h];exact h2
theorem aVu {α β:Type}{x:Option (α⊕β)}{f:β→Option α}{b:β}{r:Option α}(h:x=some (.inr b))(h2:f b=r):nx x f=r:=by rw[h];exact h2
theorem Oo (k:Nat)(h:kT (pR k))(hx:nV (pR k)=true)(he:(oP (pR k)).toList=(sK k).toList):
  (bd (bif (!nV (pR k)) then(some (true)) else(bd (gd (kT (pR k)) (some (oP (pR k)))) fun z5=>some (!z5.toList==(sK k).toList))) fun z4=>bif z4 then(some ((D.aAK.mk false (ByteArray.mk #[]) (0:Int),false))) else(some (pR k,true)))=some (pR k,true):=by
 rw[hx,aG h,bd_s,he]
 simp[bd]
theorem Ug (z:ByteArray)(h:aXc z):wT z=some (uY z):=by
 obtain rfl|⟨k,hk,rfl⟩:=h
 ·kernel_rfl
 ·unfold wT
  rcases(show k=0∨k=1∨k=2∨k=3 by omega) with rfl|rfl|rfl|rfl
  ·refine yZ (a:=(sK 0,false)) (by kernel_rfl) ?_
   refine yZ (a:=((pR 0).Host,true,true,⟨#[]⟩,443)) (by kernel_rfl) ?_
   simp only[Bool.not_true,cond_false]
   refine yZ (a:=((pR 0).Host,⟨#[]⟩,false)) (by kernel_rfl) ?_
   refine aVu (b:=(443:Int)) (by kernel_rfl) ?_
   exact(Oo 0 ⟨0,by decide,rfl⟩ (by kernel_rfl) (by kernel_rfl)).trans (by kernel_rfl)
  ·refine yZ (a:=(sK 1,false)) (by kernel_rfl) ?_
   refine yZ (a:=((pR 1).Host,true,true,⟨#[]⟩,443)) (by kernel_rfl) ?_
   simp only[Bool.not_true,cond_false]
   refine yZ (a:=((pR 1).Host,⟨#[]⟩,false)) (by kernel_rfl) ?_
   refine aVu (b:=(443:Int)) (by kernel_rfl) ?_
   exact(Oo 1 ⟨1,by decide,rfl⟩ (by kernel_rfl) (by kernel_rfl)).trans (by kernel_rfl)
  ·refine yZ (a:=(sK 2,false)) (by kernel_rfl) ?_
   refine yZ (a:=((pR 2).Host,true,true,⟨#[]⟩,443)) (by kernel_rfl) ?_
   simp only[Bool.not_true,cond_false]
   refine yZ (a:=((pR 2).Host,⟨#[]⟩,false)) (by kernel_rfl) ?_
   refine aVu (b:=(443:Int)) (by kernel_rfl) ?_
   exact(Oo 2 ⟨2,by decide,rfl⟩ (by kernel_rfl) (by kernel_rfl)).trans (by kernel_rfl)
  ·refine yZ (a:=(sK 3,false)) (by kernel_rfl) ?_
   refine yZ (a:=((pR 3).Host,true,true,⟨#[]⟩,443)) (by kernel_rfl) ?_
   simp only[Bool.not_true,cond_false]
   refine yZ (a:=((pR 3).Host,⟨#[]⟩,false)) (by kernel_rfl) ?_
   refine aVu (b:=(443:Int)) (by kernel_rfl) ?_
   exact(Oo 3 ⟨3,by decide,rfl⟩ (by kernel_rfl) (by kernel_rfl)).trans (by kernel_rfl)
theorem bB2 {o:D.aAK}{z:ByteArray}(h:Ep o z):kT o∧z.size≤34359738300∧(oP o).size≤34359738300:=by
 obtain⟨ho,j,hj,rfl⟩:=h
 refine⟨ho,?_,?_⟩
 ·rcases hj with rfl|rfl<;>exact(show 8≤34359738300 by omega)
 ·obtain⟨k,hk,rfl⟩:=ho
  have:(oP (pR k)).size≤40:=by
   rcases(show k=0∨k=1∨k=2∨k=3∨k=4∨k=5 by omega) with rfl|rfl|rfl|rfl|rfl|rfl<;>decide
  omega
theorem Lu (s:D.aAH)(o:D.aAK)(z:ByteArray)(i c:Int)(b:Bool)(h:Ep o z):rZ s o z i c b=some (fZ s o z i c b):=by
 obtain⟨h1,h2,h3⟩:=bB2 h
 have hm:∀a,(aY a).length≤34359738200:=fun a=>by simp[aY]
 unfold rZ fZ
 rw[aG h,bd_s]
 cases iI o z with
 |false=>rfl
 |true=>
  simp only[Bool.not_true,cond_false,Bool.true_and]
  rw[aG h1,bd_s,aG ⟨h2,h3⟩,bd_s,aG ⟨h2,hm _⟩,bd_s]
  show(bif !(fC s z i (aY (xP s o z i c b))).2.2 then _ else _)=_
  cases(fC s z i (aY (xP s o z i c b))).2.2<;>rfl
theorem aMp {k:Nat}(hk:k<4):uY (sK k)=(pR k,true)∧(sK k).size≤34359738300:=by
 rcases(show k=0∨k=1∨k=2∨k=3 by omega) with rfl|rfl|rfl|rfl
 ·exact⟨by kernel_rfl,show 20≤34359738300 by omega⟩
 ·exact⟨by kernel_rfl,show 20≤34359738300 by omega⟩
 ·exact⟨by kernel_rfl,show 16≤34359738300 by omega⟩
 ·exact⟨by kernel_rfl,show 16≤34359738300 by omega⟩
theorem aTp {j:Int}(hj:j=0∨j=1){k:Nat}(hk:k<4):uY (sK k)=(pR k,true)∧(aA j).size≤34359738300∧(sK k).size≤34359738300:=by
 refine⟨(aMp hk).1,?_,(aMp hk).2⟩
 rcases hj with rfl|rfl<;>exact(show 8≤34359738300 by omega)
theorem Ha (pub:Int)(a:D.aAL)(z:ByteArray)(ch cnt:Int)(h:AsP a z):kY pub a z ch cnt=some (dQ pub a z ch cnt):=by
 obtain⟨j,hj,rfl,rfl|⟨hs,k,hk,ho,hu⟩⟩:=h
 ·unfold kY
  rw[aG (show aXc aFq.aAK from .inl rfl)]
  rcases hj with rfl|rfl<;>kernel_rfl
 ·obtain⟨h1,h2,h3⟩:=aTp hj hk
  have hm:(aY a).length=6:=by simp[aY]
  have e:oL (aY a) [[a.Counter]]=aY a++[a.Counter]:=by simp[oL]
  have hz:a.Site.size≤34359738300∧a.aAK.size≤34359738300:=by rw[hs,ho];exact⟨h2,h3⟩
  unfold kY dQ
  rw[aG (show aXc a.aAK from .inr ⟨k,hk,ho⟩),bd_s,show uY a.aAK=(pR k,true) by rw[ho];exact h1,show(a.Site.toList==(aA j).toList)=true by rw[hs];simp]
  simp only[Bool.not_true,cond_false]
  rw[aG (show Ep (pR k) (aA j) from⟨⟨k,by omega,rfl⟩,j,hj,rfl⟩),bd_s,hu,bd_s]
  simp only[Bool.not_true,cond_false,bne,aG hz,bd_s]
  rw[aG (show tH (aY a) [[a.Counter]] by simp[tH,hm]),bd_s,e,aG (show(aY a++[a.Counter]).length≤34359738300 by simp only[List.length_append,hm,List.length_cons,List.length_nil];omega),bd_s]
  cases a.Present<;>cases a.aAM==ch<;>cases fA pub (aY a++[a.Counter]) a.Signature<;>cases decide (a.Counter≤cnt)<;>rfl
theorem bB3 {a:D.aAF}{h:Int}(hk:decide (aM a h<0)=false):bT a.Credentials (aM a h)=some (dU a (aM a h))∧(aM a h).toNat<a.Credentials.length:=by
 have hr:=lU (p:=fun c:D.aAJ=>c.Handle==h) (i:=0) (l:=a.Credentials) hk
 exact⟨rQ (by unfold aM;omega) (by unfold aM;omega),by unfold aM;omega⟩
theorem Lv (a:D.aAF)(x:D.aAL)(z:ByteArray)(c:Int)(h:AsP x z∧a.sz≤34359738368):sG a x z c=some (eQ a x z c):=by
 obtain⟨hp,hz⟩:=h
 have hl:a.Credentials.length≤34359738368:=hz
 unfold sG eQ
 simp only[aG hz,aG hl,bd_s]
 cases aU a with
 |false=>rfl
 |true=>
  cases hk:decide (aM a x.Handle<0) with
  |true=>rfl
  |false=>
   simp only[Bool.not_true,cond_false,(bB3 hk).1,bd_s,Bool.false_or]
   cases(dU a (aM a x.Handle)).Cut with
   |true=>rfl
   |false=>
    simp only[aG hp,bd_s,cond_false]
    generalize dQ (dU a (aM a x.Handle)).Public x z c (dU a (aM a x.Handle)).Counter=k
    by_cases h0:k=0
    ·subst h0;rfl
    ·rw[beq_eq_false_iff_ne.2 h0]
     cases k==4 with
     |false=>rfl
     |true=>simp only[cond_true,cond_false,bd_s,(bB3 hk).1]
theorem bEg {s:D.Site}{i:Int}(hz:s.sz≤34359738300)(h:decide (aC s i<0)=false):bT s.Accounts (aC s i)=some (dK s (aC s i))∧(dK s (aC s i)).sz≤34359738300∧(aC s i).toNat<s.Accounts.length:=by
 have hr:=lU (p:=fun a:D.aAF=>a.Id==i) (i:=0) (l:=s.Accounts) h
 have hi:(aC s i).toNat<s.Accounts.length:=by unfold aC;omega
 have h1:=Nw (f:=D.aAF.sz) hi
 refine⟨rQ (by unfold aC;omega) (by unfold aC;omega),?_,hi⟩
 unfold dK
 simp only[D.Site.sz] at hz;omega
theorem Uh (s:D.Site)(i c n:Int)(x:D.aAL)(h:AsP x s.Name∧s.sz≤34359738300):wU s i c n x=some (jN s i c n x):=by
 obtain⟨hp,hz⟩:=h
 have hz1:s.sz≤34359738368:=by omega
 have hb:s.Book.sz≤34359738368:=by simp only[D.Site.sz,D.aAD.sz] at hz ⊢;omega
 have hl:s.Accounts.length≤34359738368:=by simp only[D.Site.sz] at hz;omega
 have ha:aX s.Logins [i]:=by unfold aX;simp only[D.Site.sz] at hz;simp only[List.length_cons,List.length_nil];omega
 unfold wU jN
 simp only[aG hz1,aG hl,aG hb,bd_s]
 cases bL s with
 |false=>rfl
 |true=>
  simp only[Bool.not_true,cond_false,bd_s,Bool.false_or]
  cases hk:decide (aC s i<0) with
  |true=>rfl
  |false=>
   obtain⟨e1,e2,e3⟩:=bEg hz hk
   simp only[cond_false]
   cases(kS s.Book c i n).2 with
   |false=>rfl
   |true=>
    simp only[Bool.not_true,cond_false,e1,bd_s,aG (show(dK s (aC s i)).sz≤34359738368 by omega)]
    cases mF (dK s (aC s i)) 3 with
    |false=>rfl
    |true=>
     simp only[Bool.not_true,cond_false,aG (show AsP x s.Name∧(dK s (aC s i)).sz≤34359738368 from⟨hp,by omega⟩),bd_s,aG ha,bne]
     cases(eQ (dK s (aC s i)) x s.Name (dH s.Book c)).2==0<;>rfl
theorem Lx {w:D.World}(h:bK w=true):w.Sites.length=2∧w.Stolen.length=w.Devices.length∧w.Devices.length≤6∧jB kP 0 w.Sites=false:=by
 simp only[bK,bR,Bool.and_eq_true,decide_eq_true_eq,beq_iff_eq,Bool.not_eq_true'] at h
 exact⟨by omega,by omega,by omega,h.2⟩
theorem aMq {w:D.World}{d j:Int}(h:bU w d j=true):bT w.Stolen d=some (bM w d):=by
 simp only[bU,Bool.and_eq_true] at h
 obtain⟨h1,h2,h3,_⟩:=Lx h.1
 have hd:=h.2.1
 simp only[aQ,Bool.and_eq_true,decide_eq_true_eq] at hd
 unfold bM
 rw[uI hd.1 (by omega)];simp[List.getD,List.getElem?_eq_getElem (show d.toNat<w.Stolen.length by omega)]
theorem aJy (w:D.World)(d j:Int)(b:Bool)(h:w.sz≤34359738368):Ri w d j b=some (bU w d j&&bM w d==b):=by
 unfold Ri
 rw[aG h,bd_s]
 cases ht:bU w d j with
 |true=>
  have ht2:=ht
  simp only[bU,Bool.and_eq_true] at ht2
  rw[ht2.1,ht2.2.1,ht2.2.2,aMq ht];rfl
 |false=>
  unfold bU at ht
  cases hw:bK w with
  |false=>rfl
  |true=>
   cases hd:aQ w d with
   |false=>rfl
   |true=>
    cases hs:iE w j with
    |false=>rfl
    |true=>rw[hw,hd,hs] at ht;cases ht
theorem bEh (j:Int):(ByteArray.mk #[UInt8.ofNat 119,UInt8.ofNat 119,UInt8.ofNat 119,UInt8.ofNat 46]).size+(aA j).size≤9223372036854775807:=by
 unfold aA;cases j==0<;>cases j==1<;>decide
theorem aRi (j:Int):aBn j=some (nU j):=by
 unfold aBn
 rw[aG (bEh j)];rfl
theorem bG1 {a b:ByteArray}(h:a.toList=b.toList):a=b:=by
 rw[ByteArray.toList_eq,ByteArray.toList_eq] at h
 exact ByteArray.ext (Array.toList_inj.1 h)
theorem bB4 {l:List D.Site}{k:Nat}:∀{i:Nat},jB kP i l=false→∀(h:k<l.length),bL l[k]=true∧l[k].Name=aA ((i+k:Nat):Int):=by
 induction l generalizing k with
 |nil=>intro i _ h;simp at h
 |cons s l ih=>
  intro i ha h
  simp only[jB,Bool.or_eq_false_iff] at ha
  cases k with
  |zero=>
   have hb:=ha.1
   simp only[kP,Bool.or_eq_false_iff,Bool.not_eq_false'] at hb
   refine⟨hb.1,?_⟩
   have:=eq_of_beq hb.2
   exact bG1 this
  |succ k=>
   have:=ih (k:=k) (i:=i+1) ha.2 (by simpa using h)
   simp only[List.getElem_cons_succ]
   refine⟨this.1,this.2.trans ?_⟩
   congr 1;omega
theorem Zz {w:D.World}{d j:Int}(h:bU w d j=true):bT w.Sites j=some (dA w j)∧(dA w j).sz≤w.sz∧(dA w j).Name=aA j∧(j=0∨j=1)∧j.toNat<w.Sites.length:=by
 simp only[bU,Bool.and_eq_true] at h
 obtain⟨h1,h2,h3,h4⟩:=Lx h.1
 have hd:=h.2.2
 simp only[iE,Bool.and_eq_true,decide_eq_true_eq] at hd
 have hj:j.toNat<w.Sites.length:=by omega
 have hs:=Nw (f:=D.Site.sz) hj
 have e:dA w j=w.Sites[j.toNat]:=by unfold dA;simp[List.getD,List.getElem?_eq_getElem hj]
 refine⟨by rw[uI hd.1 hj,e],?_,?_,by omega,hj⟩
 ·unfold dA;simp only[D.World.sz];omega
 ·rw[e,(bB4 h4 hj).2];congr 1;omega
theorem aTq (s:D.Site)(i n:Int):(gT s i n).1.Name=s.Name∧(gT s i n).1.sz≤s.sz+1:=by
 unfold gT
 cases bL s&&(!decide (aC s i<0)&&(dO s.Book i n).2.2) with
 |false=>exact⟨rfl,Nat.le_succ _⟩
 |true=>
  refine⟨rfl,?_⟩
  have hb:(dO s.Book i n).1.Open.length≤s.Book.Open.length+1:=by
   unfold dO
   cases dV s.Book&&(!(s.Book.Next==1000000)&&(bR i 0 1000000&&bR n 0 1000000)) with
   |false=>simp only[cond_false];omega
   |true=>
    simp only[cond_true]
    cases decide ((s.Book.Open.length:Int)≥16) with
    |true=>simp only[cond_true,List.length_append,List.length_drop,List.length_cons,List.length_nil];omega
    |false=>simp only[cond_false,List.length_append,List.length_cons,List.length_nil];omega
  simp only[cond_true,D.Site.sz,D.aAD.sz];omega
theorem bB5 {k:Nat}(hk:k<6){j:Int}(hj:j=0∨j=1)(h:iI (pR k) (aA j)=true):k<4:=by
 rcases(show k<4∨k=4∨k=5 by omega) with h4|rfl|rfl
 ·exact h4
 ·rcases hj with rfl|rfl<;>exact absurd h (by decide)
 ·rcases hj with rfl|rfl<;>exact absurd h (by decide)
theorem aTr (s:D.aAH)(h c:Int)(p:Bool){o:D.aAK}(ho:kT o){j:Int}(hj:j=0∨j=1):AsP (fZ s o (aA j) h c p).2.1 (aA j):=by
 refine⟨j,hj,rfl,?_⟩
 obtain⟨k,hk,rfl⟩:=ho
 unfold fZ
 cases hm:iI (pR k) (aA j) with
 |false=>exact .inl rfl
 |true=>
  cases(fC s (aA j) h (aY (xP s (pR k) (aA j) h c p))).2.2 with
  |false=>exact .inl rfl
  |true=>exact .inr ⟨rfl,k,bB5 hk hj hm,rfl,hm⟩
theorem bIj {w:D.World}{d j:Int}{o:D.aAK}(ho:kT o)(h:bU w d j=true)(hz:w.sz≤34359738200):AsP (mQ w d j o).2.1 (eT w j).1.Name∧(eT w j).1.sz≤34359738300:=by
 obtain⟨_,h2,h3,h4,_⟩:=Zz h
 obtain⟨b1,b2⟩:=aTq (dA w j) 1 w.Now
 exact⟨by unfold mQ eT;rw[b1,h3];exact aTr _ _ _ _ ho h4,by unfold eT;omega⟩
theorem aOe (w:D.World)(d j:Int)(o:D.aAK)(h:kT o∧w.sz≤34359738200):Yy w d j o=some (dY w d j o):=by
 obtain⟨ho,hz⟩:=h
 have hz1:w.sz≤34359738368:=by omega
 unfold Yy dY
 simp only[aG hz1,bd_s]
 cases ht:bU w d j with
 |false=>
  unfold bU at ht
  cases hw:bK w with
  |false=>rfl
  |true=>
   cases hd:aQ w d with
   |false=>rfl
   |true=>
    cases hs:iE w j with
    |false=>rfl
    |true=>rw[hw,hd,hs] at ht;cases ht
 |true=>
  obtain⟨e1,e2,e3,e4,e5⟩:=Zz ht
  obtain⟨p1,p2⟩:=bIj ho ht hz
  have ht2:=ht
  simp only[bU,Bool.and_eq_true] at ht2
  have ed:=Ya ht2.2.1
  have hm:w.Mail.sz≤34359738300:=by simp only[D.World.sz,D.aAN.sz] at hz ⊢;omega
  have hj0:0≤j:=by omega
  have es:bT (w.Sites.set j.toNat (eT w j).1) j=some (eT w j).1:=by
   rw[uI hj0 (by simpa using e5)];simp
  rw[ht2.1,ht2.2.1,ht2.2.2]
  simp only[Bool.not_true,cond_false,e1,bd_s,aG (show(dA w j).sz≤34359738368 by omega)]
  rw[show gT (dA w j) 1 w.Now=eT w j from rfl]
  cases hb:(eT w j).2.2.2 with
  |false=>rfl
  |true=>
   simp only[Bool.not_true,cond_false,ed,es,bd_s,aG (show Ep o (aA j) from ho.p e4)]
   rw[show fZ (aF w d).Store o (aA j) d (eT w j).2.2.1 true=mQ w d j o from rfl]
   simp only[aG (show AsP (mQ w d j o).2.1 (eT w j).1.Name∧(eT w j).1.sz≤34359738300 from⟨p1,p2⟩),bd_s,aG hm,bne]
   rw[show jN (eT w j).1 1 (eT w j).2.1 w.Now (mQ w d j o).2.1=xQ w d j o from rfl,List.set_set]
   cases(xQ w d j o).2.1==0<;>rfl
theorem aCr (w:D.World)(d j:Int)(o:D.aAK)(h:kT o∧w.sz≤34359738200):Fy w d j o=some (nD w d j o):=by
 unfold Fy;rw[aG h];rfl
theorem Ui (w:D.World)(d j:Int)(hz:w.sz≤34359738200):wV w d j=some (uR w d j):=by
 have hz1:w.sz≤34359738368:=by omega
 unfold wV uR
 simp only[aG hz1,bd_s]
 rw[show(bM w d==false)= !bM w d by cases bM w d<;>rfl]
 cases hq:bU w d j&& !bM w d with
 |false=>rfl
 |true=>
  rw[Bool.and_eq_true] at hq
  simp only[Bool.not_true,cond_false,cond_true]
  exact(yZ (aG (show kT (nU j)∧w.sz≤34359738200 from⟨bA0 (Zz hq.1).2.2.2.1,hz⟩)) rfl)
end
end Go.VK
