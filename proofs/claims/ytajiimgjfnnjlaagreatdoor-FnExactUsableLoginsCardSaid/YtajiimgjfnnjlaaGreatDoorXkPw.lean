import Derived.Test.YtajiimgjfnnjlaaGreatDoorXkPv
import Derived.Test.YtajiimgjfnnjlaaGreatDoorXkQ
/- Printed by wip/tools: models, walks, proofs. -/
set_option linter.unusedVariables false
set_option linter.unusedSimpArgs false
set_option maxRecDepth 100000
set_option maxHeartbeats 4000000
namespace Go.VK
open Go.RowKit Go.Proofs
noncomputable section
open EV (bK)
theorem Az (b:D.aAA)(i:Int):kL b i=some (dJ b i):=by
 unfold kL
 rw[aC (by simp)];rfl
theorem Ba (b:D.aAA)(i:Int):kS b i=some (dJ b i):=by
 unfold kS
 rw[aC (by simp)];rfl
theorem Kc (s:D.aAL):nR s=some (gF s):=by
 unfold nR gF
 cases bI s.Vendor 1 9<;>cases bI s.Serial 0 1000000<;>cases gY s.Seed<;>rfl
theorem Ke (s:D.aAL):nW s=some (gF s):=by
 unfold nW gF
 cases bI s.Vendor 1 9<;>cases bI s.Serial 0 1000000<;>cases gY s.Seed<;>rfl
theorem wB (a:D.aAJ)(h:a.Site.size≤34359738300∧a.aAK.size≤34359738300):iY a=some (aI a):=by
 unfold iY aI
 rw[aC h.1,aC h.2]
 cases a.Present<;>rfl
theorem wC (a:D.aAJ)(h:a.Site.size≤34359738300∧a.aAK.size≤34359738300):jB a=some (aI a):=by
 unfold jB aI Oz
 rw[aC h.1,aC h.2]
 cases a.Present<;>rfl
theorem Gb (b:D.aAA)(i:Int)(h:b.Open.length≤34359738368):mF b i=some (aS b i):=by
 unfold mF
 exact uQ (l:=b.Open) (fun c=>c.Id==i) (by omega) (fun rec j hj=>by simp only[bB hj,cond_true,aD hj,bd_s]) (fun rec=>by simp only[bC,cond_false])
theorem Gc (b:D.aAA)(i:Int)(h:b.Open.length≤34359738368):mK b i=some (aS b i):=by
 unfold mK
 exact uQ (l:=b.Open) (fun c=>c.Id==i) (by omega) (fun rec j hj=>by simp only[bB hj,cond_true,aD hj,bd_s]) (fun rec=>by simp only[bC,cond_false])
theorem Bb (b:D.aAA)(i n:Int)(h:b.sz≤34359738368):kK b i n=some (fI b i n):=by
 have hl:b.Open.length≤b.sz:=by simp only[D.aAA.sz];omega
 have ha:∀(x y:List D.aAG),x.length+y.length≤34359738400→aU x y:=fun x y h=>by unfold aU;omega
 unfold kK fI
 rw[aC h,bd_s,aC h,bd_s]
 cases bW b with
 |false=>rfl
 |true=>
  cases b.Next==1000000 with
  |true=>rfl
  |false=>
   cases bI i 0 1000000 with
   |false=>rfl
   |true=>
    cases bI n 0 1000000 with
    |false=>rfl
    |true=>
     simp only[Bool.not_true,Bool.not_false,Bool.and_self,cond_false,cond_true,bd_s]
     cases hd:decide ((b.Open.length:Int)≥16) with
     |false=>rw[cond_false,aC (ha _ _ (by simp only[List.length_cons,List.length_nil];omega))];rfl
     |true=>
      have h16:=of_decide_eq_true hd
      rw[cond_true,aC (show fU b.Open 1 from⟨by omega,by omega⟩),aC (ha _ _ (by simp only[List.length_drop,List.length_cons,List.length_nil];omega))];rfl
theorem Bc (b:D.aAA)(i n:Int)(h:b.sz≤34359738368):kR b i n=some (fI b i n):=by
 have hl:b.Open.length≤b.sz:=by simp only[D.aAA.sz];omega
 have ha:∀(x y:List D.aAG),x.length+y.length≤34359738400→aU x y:=fun x y h=>by unfold aU;omega
 unfold kR fI
 rw[aC h,bd_s,aC h,bd_s]
 cases hb:bW b with
 |false=>rfl
 |true=>
  have h16:b.Open.length≤16:=by
   simp only[bW,Bool.and_eq_true,decide_eq_true_eq] at hb;exact hb.1.2
  cases b.Next==1000000 with
  |true=>rfl
  |false=>
   cases bI i 0 1000000 with
   |false=>rfl
   |true=>
    cases bI n 0 1000000 with
    |false=>rfl
    |true=>
     simp only[Bool.not_true,Bool.not_false,Bool.and_self,cond_false,cond_true,bd_s]
     by_cases hd:b.Open.length=16
     ·rw[show((b.Open.length:Int)==16)=true by rw[hd];rfl,show decide ((b.Open.length:Int)≥16)=true from decide_eq_true (by omega),cond_true,cond_true,aC (show fU b.Open 1 from⟨by omega,by omega⟩),aC (ha _ _ (by simp only[List.length_nil,List.length_drop];omega)),bd_s,aC (ha _ _ (by simp only[List.nil_append,List.length_drop,List.length_cons,List.length_nil];omega))];rfl
     ·rw[show((b.Open.length:Int)==16)=false from beq_eq_false_iff_ne.2 (by omega),show decide ((b.Open.length:Int)≥16)=false from decide_eq_false (by omega),cond_false,cond_false,bd_s,aC (ha _ _ (by simp only[List.length_cons,List.length_nil];omega))];rfl
theorem Gd (b:D.aAA)(id acc now:Int)(h:b.sz≤34359738368):mG b id acc now=some (qD b id acc now):=by
 have hl:b.Open.length≤b.sz:=by simp only[D.aAA.sz];omega
 have ha:∀(x y:List D.aAG),x.length+y.length≤34359738400→aU x y:=fun x y h=>by unfold aU;omega
 unfold mG qD
 rw[aC (show b.Open.length≤34359738368 by omega),bd_s,aC h,bd_s]
 cases bW b with
 |false=>simp only[Bool.not_false,cond_true,bd_s,Bool.true_or];rw[aC h];rfl
 |true=>
  simp only[Bool.not_true,cond_false,bd_s,Bool.false_or]
  cases hf:decide (aS b id<0) with
  |true=>rw[cond_true,cond_true,aC h];rfl
  |false=>
   obtain⟨h0,h1⟩:=sO (i:=0) hf
   have h0:0≤aS b id:=h0
   have h1:aS b id<(b.Open.length:Int):=by have:aS b id<0+(b.Open.length:Int):=h1;omega
   have hk:IntKind.i64.wrap (aS b id+1)=(((aS b id).toNat+1:Nat):Int):=by rw[bA (by omega) (by omega)];omega
   have hat:aW b.Open (aS b id)=some (Ya b (aS b id)):=Ua h0 h1
   rw[cond_false,cond_false,hk,hat,aC (show fU b.Open (aS b id) from⟨by omega,by omega⟩),aC (show fU b.Open (((aS b id).toNat+1:Nat):Int) from⟨by omega,by omega⟩),
    aC (ha _ _ (by simp only[List.length_nil,List.length_take];omega)),aC (ha _ _ (by simp only[List.nil_append,List.length_take,List.length_drop];omega)),bd_s,bd_s,Int.toNat_natCast]
   cases(Ya b (aS b id)).aAD==acc<;>rfl
theorem Gf (b:D.aAA)(id acc now:Int)(h:b.sz≤34359738368):mM b id acc now=some (qD b id acc now):=by
 have hl:b.Open.length≤b.sz:=by simp only[D.aAA.sz];omega
 have ha:∀(x y:List D.aAG),x.length+y.length≤34359738400→aU x y:=fun x y h=>by unfold aU;omega
 unfold mM qD
 rw[aC h,bd_s,aC (show b.Open.length≤34359738368 by omega),bd_s,aC h,bd_s]
 cases bW b with
 |false=>rfl
 |true=>
  simp only[Bool.not_true,cond_false,bd_s,Bool.false_or]
  cases hf:decide (aS b id<0) with
  |true=>rfl
  |false=>
   obtain⟨h0,h1⟩:=sO (i:=0) hf
   have h0:0≤aS b id:=h0
   have h1:aS b id<(b.Open.length:Int):=by have:aS b id<0+(b.Open.length:Int):=h1;omega
   have hk:IntKind.i64.wrap (aS b id+1)=(((aS b id).toNat+1:Nat):Int):=by rw[bA (by omega) (by omega)];omega
   have hat:aW b.Open (aS b id)=some (Ya b (aS b id)):=Ua h0 h1
   rw[cond_false,cond_false,hk,hat,bd_s,aC (show fU b.Open (aS b id) from⟨by omega,by omega⟩),aC (show fU b.Open (((aS b id).toNat+1:Nat):Int) from⟨by omega,by omega⟩),
    aC (ha _ _ (by simp only[List.length_nil,List.length_take];omega)),aC (ha _ _ (by simp only[List.nil_append,List.length_take,List.length_drop];omega)),Int.toNat_natCast]
   cases(Ya b (aS b id)).aAD==acc<;>rfl
theorem Gg (s:D.aAL)(z:ByteArray)(i:Int)(l:List Int)(h:z.size≤34359738300∧l.length≤34359738200):mD s z i l=some (dS s z i l):=by
 have ha:∀(x y:List Int),x.length+y.length≤34359738400→aU x y:=fun x y h=>by unfold aU;omega
 unfold mD dS
 cases gF s with
 |false=>rfl
 |true=>
  simp only[Bool.not_true,cond_false,bd_s,Bool.true_and]
  cases s.Counter==1000000 with
  |true=>rfl
  |false=>
   simp only[aC h.1,bd_s,cond_false,Bool.not_false,cond_true]
   rw[aC (ha _ _ (by simp only[List.length_nil];omega)),aC (ha _ _ (by simp only[List.nil_append,List.length_cons,List.length_nil];omega)),aC (by simp only[List.nil_append,List.length_append,List.length_cons,List.length_nil];omega)]
   rfl
theorem Gh (s:D.aAL)(z:ByteArray)(i:Int)(l:List Int)(h:z.size≤34359738300∧l.length≤34359738200):mI s z i l=some (dS s z i l):=by
 unfold mI dS
 cases gF s with
 |false=>rfl
 |true=>
  simp only[Bool.not_true,cond_false,bd_s,Bool.true_and]
  cases s.Counter==1000000 with
  |true=>rfl
  |false=>
   simp only[aC h.1,bd_s,cond_false,Bool.not_false,cond_true]
   have e:jK l [[IntKind.i64.wrap (s.Counter+1)]]=l++[IntKind.i64.wrap (s.Counter+1)]:=by simp[jK]
   rw[aC (by simp[nH];omega),bd_s,e,aC (by simp only[List.length_append,List.length_cons,List.length_nil];omega)]
   rfl
theorem Ve (s:D.Site)(id now:Int)(h:s.sz≤34359738368):tC s id now=some (jN s id now):=by
 have hb:s.Book.sz≤34359738368:=by simp only[D.Site.sz,D.aAA.sz] at h ⊢;omega
 have hl:s.Accounts.length≤34359738368:=by simp only[D.Site.sz] at h;omega
 unfold tC jN
 rw[aC h,bd_s,aC hb,bd_s,aC h,bd_s]
 cases bX s with
 |false=>rfl
 |true=>
  simp only[Bool.not_true,cond_false,Bool.true_and]
  rw[aC hl,bd_s]
  cases decide (aH s id<0) with
  |true=>rfl
  |false=>cases(fI s.Book id now).2.2<;>rfl
theorem Vf (s:D.Site)(id now:Int)(h:s.sz≤34359738368):tO s id now=some (jN s id now):=by
 have hb:s.Book.sz≤34359738368:=by simp only[D.Site.sz,D.aAA.sz] at h ⊢;omega
 have hl:s.Accounts.length≤34359738368:=by simp only[D.Site.sz] at h;omega
 unfold tO jN
 rw[aC h,bd_s,aC h,bd_s]
 cases bX s with
 |false=>rfl
 |true=>
  simp only[Bool.not_true,cond_false,Bool.true_and]
  rw[aC hl,bd_s,bd_s]
  cases decide (aH s id<0) with
  |true=>rfl
  |false=>
   rw[cond_false,aC hb,bd_s]
   cases(fI s.Book id now).2.2<;>rfl
theorem Kg (a:D.aAD)(m:Int)(h:a.sz≤34359738368):nS a m=some (jP a m):=by
 have hl:a.Credentials.length≤34359738368:=by simp only[D.aAD.sz] at h;omega
 unfold nS jP
 rw[aC h,bd_s,gK (l:=a.Credentials) (fun c=> !c.Cut) (.inl true) (.inr ()) (by omega) (fun rec i hi=>by simp only[bB hi,cond_true,aD hi,bd_s]) (fun rec=>by simp only[bC,cond_false])]
 cases aY a with
 |false=>rfl
 |true=>
  simp only[Bool.not_true,cond_false,bd_s,Bool.true_and]
  rw[show bI m a.Minimum 3=(decide (a.Minimum≤m)&&decide (m≤3)) from rfl]
  cases decide (a.Minimum≤m)<;>cases decide (m≤3)<;>try rfl
  cases hm:m==3<;>cases a.Credentials.any fun c=> !c.Cut<;>simp[hm,nx,bne]
theorem Kh (a:D.aAD)(m:Int)(h:a.sz≤34359738368):nX a m=some (jP a m):=by
 have hl:a.Credentials.length≤34359738368:=by simp only[D.aAD.sz] at h;omega
 unfold nX jP
 rw[aC h,bd_s,gK (l:=a.Credentials) (fun c=> !c.Cut) (.inl true) (.inr ()) (by omega) (fun rec i hi=>by simp only[bB hi,cond_true,aD hi,bd_s]) (fun rec=>by simp only[bC,cond_false])]
 cases ha:aY a with
 |false=>rfl
 |true=>
  have h1:1≤a.Minimum:=by
   simp only[aY,bI,Bool.and_eq_true,decide_eq_true_eq] at ha;exact ha.1.1.2.1
  simp only[Bool.not_true,cond_false,bd_s,Bool.true_and]
  rw[show bI m 1 3=(decide (1≤m)&&decide (m≤3)) from rfl]
  by_cases hm:a.Minimum≤m
  ·rw[show decide (a.Minimum≤m)=true from decide_eq_true hm,show decide (1≤m)=true from decide_eq_true (by omega),show decide (m<a.Minimum)=false from decide_eq_false (by omega)]
   cases decide (m≤3)<;>try rfl
   cases hm:m==3<;>cases a.Credentials.any fun c=> !c.Cut<;>simp[hm,nx,bne]
  ·rw[show decide (a.Minimum≤m)=false from decide_eq_false hm,show decide (m<a.Minimum)=true from decide_eq_true (by omega)]
   cases decide (1≤m)<;>cases decide (m≤3)<;>rfl
theorem U1 (o:D.aAK)(h:o.Host.size≤34359738368):zJ o=some (dA o):=by
 unfold zJ dA
 rw[aC h,bd_s]
 cases bS o.Host<;>rfl
theorem U2 (o:D.aAK):zR o=some (dA o):=by
 unfold zR dA
 cases bS o.Host<;>rfl
theorem Ki (o:D.aAK)(h:yS o):Jm o=some (fD o):=by
 obtain⟨j,rfl|rfl,rfl⟩:=h<;>kernel_rfl
theorem Kj (o:D.aAK)(h:yS o):Jn o=some (fD o):=by
 obtain⟨j,rfl|rfl,rfl⟩:=h<;>kernel_rfl
theorem aGk (o:D.aAK)(z:ByteArray)(h:iW o z):aF3 o z=some true:=by
 obtain⟨j,rfl|rfl,rfl,rfl⟩:=h<;>kernel_rfl
theorem aGl (o:D.aAK)(z:ByteArray)(h:iW o z):aF4 o z=some true:=by
 obtain⟨j,rfl|rfl,rfl,rfl⟩:=h<;>kernel_rfl
theorem wD {α β:Type}{x:Option α}{f:α→Option β}{a:α}{r:Option β}(h:x=some a)(h2:f a=r):bd x f=r:=by rw[h];exact h2
theorem aL8 {α β:Type}{x:Option (α⊕β)}{f:β→Option α}{b:β}{r:Option α}(h:x=some (.inr b))(h2:f b=r):nx x f=r:=by rw[h];exact h2
theorem aNp {τ:Type}(n:Nat){F:(Nat→Option τ)→Nat→Option τ}{b:τ}(hn:n≤18446744073709551616)(hF:∀rec i,i<n→F rec i=rec (i+1))(hE:∀rec,F rec n=some b):bK FUEL F 0=some b:=by
 have:=gK (l:=List.replicate n ()) (fun _=>false) b b (by simpa using hn) (F:=F) (fun rec i hi=>by rw[hF rec i (by simpa using hi)];rfl) (fun rec=>by simpa using hE rec)
 rw[this];cases(List.replicate n ()).any fun _=>false<;>rfl
theorem aWy {p:Nat→Prop}(h:p 0∧p 1∧p 2∧p 3∧p 4∧p 5∧p 6∧p 7∧p 8∧p 9∧p 10∧p 11):∀i,i<12→p i:=fun i hi=>by
 match i,hi with
 |0,_=>exact h.1
 |1,_=>exact h.2.1
 |2,_=>exact h.2.2.1
 |3,_=>exact h.2.2.2.1
 |4,_=>exact h.2.2.2.2.1
 |5,_=>exact h.2.2.2.2.2.1
 |6,_=>exact h.2.2.2.2.2.2.1
 |7,_=>exact h.2.2.2.2.2.2.2.1
 |8,_=>exact h.2.2.2.2.2.2.2.2.1
 |9,_=>exact h.2.2.2.2.2.2.2.2.2.1
 |10,_=>exact h.2.2.2.2.2.2.2.2.2.2.1
 |11,_=>exact h.2.2.2.2.2.2.2.2.2.2.2
 |n+12,h=>omega
theorem Jg (j:Int)(h:yS (bM j))(x:Bool)(hx:dA (bM j)=true)(he:(fD (bM j)).toList=(Dl j).toList):
  (bd (bif (!dA (bM j)) then(some (true)) else(bd (gd (yS (bM j)) (some (fD (bM j)))) fun z5=>some (!z5.toList==(Dl j).toList))) fun z4=>bif z4 then(some ((D.aAK.mk false (ByteArray.mk #[]) (0:Int),false))) else(some (bM j,true)))=some (bM j,true):=by
 rw[hx,aC h,bd_s,he]
 simp[bd]
theorem Pz (z:ByteArray)(h:aB5 z):eY z=some (gP z):=by
 obtain rfl|⟨j,rfl|rfl,rfl⟩:=h
 ·unfold eY
  refine wD (a:=(⟨#[]⟩,false,⟨#[]⟩,0)) (by kernel_rfl) ?_
  refine aL8 (b:=(⟨#[]⟩,(0:Int))) (aNp 0 (by omega) (fun rec i hi=>by omega) (fun rec=>by kernel_rfl)) ?_
  kernel_rfl
 ·unfold eY
  refine wD (a:=((bM 0).Host,true,⟨#[]⟩,443)) (by kernel_rfl) ?_
  refine aL8 (b:=((bM 0).Host,(443:Int))) (aNp 12 (by omega) (fun rec=>aWy (by refine⟨?_,?_,?_,?_,?_,?_,?_,?_,?_,?_,?_,?_⟩<;>kernel_rfl)) (fun rec=>by kernel_rfl)) ?_
  refine wD (a:=true) (by kernel_rfl) ?_
  exact(Jg 0 ⟨0, .inl rfl,rfl⟩ true (by kernel_rfl) (by kernel_rfl)).trans (by kernel_rfl)
 ·unfold eY
  refine wD (a:=((bM 1).Host,true,⟨#[]⟩,443)) (by kernel_rfl) ?_
  refine aL8 (b:=((bM 1).Host,(443:Int))) (aNp 12 (by omega) (fun rec=>aWy (by refine⟨?_,?_,?_,?_,?_,?_,?_,?_,?_,?_,?_,?_⟩<;>kernel_rfl)) (fun rec=>by kernel_rfl)) ?_
  refine wD (a:=true) (by kernel_rfl) ?_
  exact(Jg 1 ⟨1, .inr rfl,rfl⟩ true (by kernel_rfl) (by kernel_rfl)).trans (by kernel_rfl)
theorem Qa (z:ByteArray)(h:aB5 z):iM z=some (gP z):=by
 obtain rfl|⟨j,rfl|rfl,rfl⟩:=h
 ·kernel_rfl
 ·unfold iM
  refine wD (a:=(Dl 0,false)) (by kernel_rfl) ?_
  refine wD (a:=((bM 0).Host,true,true,⟨#[]⟩,443)) (by kernel_rfl) ?_
  simp only[Bool.not_true,cond_false]
  refine wD (a:=((bM 0).Host,⟨#[]⟩,false)) (by kernel_rfl) ?_
  refine aL8 (b:=(443:Int)) (by kernel_rfl) ?_
  exact(Jg 0 ⟨0, .inl rfl,rfl⟩ true (by kernel_rfl) (by kernel_rfl)).trans (by kernel_rfl)
 ·unfold iM
  refine wD (a:=(Dl 1,false)) (by kernel_rfl) ?_
  refine wD (a:=((bM 1).Host,true,true,⟨#[]⟩,443)) (by kernel_rfl) ?_
  simp only[Bool.not_true,cond_false]
  refine wD (a:=((bM 1).Host,⟨#[]⟩,false)) (by kernel_rfl) ?_
  refine aL8 (b:=(443:Int)) (by kernel_rfl) ?_
  exact(Jg 1 ⟨1, .inr rfl,rfl⟩ true (by kernel_rfl) (by kernel_rfl)).trans (by kernel_rfl)
theorem aL9 {o:D.aAK}{z:ByteArray}(h:iW o z):yS o∧z.size≤34359738300∧(fD o).size≤34359738300:=by
 obtain⟨j,hj,rfl,rfl⟩:=h
 refine⟨⟨j,hj,rfl⟩,?_⟩
 rcases hj with rfl|rfl
 ·exact⟨show 8≤34359738300 by omega,show 20≤34359738300 by omega⟩
 ·exact⟨show 8≤34359738300 by omega,show 20≤34359738300 by omega⟩
theorem Gi (s:D.aAL)(o:D.aAK)(z:ByteArray)(i c:Int)(b:Bool)(h:iW o z):mE s o z i c b=some (gQ s o z i c b):=by
 obtain⟨h1,h2,h3⟩:=aL9 h
 unfold mE gQ
 have hm:∀a,(aI a).length≤34359738200:=fun a=>by simp[aI]
 rw[aC h1,bd_s,aC ⟨h2,h3⟩,bd_s,aC ⟨h2,hm _⟩,bd_s,aC h,bd_s]
 show bd (bif !true then some true else some !(dS s z i (aI (aF2 s o z i c b))).2.2) _=_
 cases(dS s z i (aI (aF2 s o z i c b))).2.2<;>rfl
theorem Gj (s:D.aAL)(o:D.aAK)(z:ByteArray)(i c:Int)(b:Bool)(h:iW o z):mJ s o z i c b=some (gQ s o z i c b):=by
 obtain⟨h1,h2,h3⟩:=aL9 h
 have hm:∀a,(aI a).length≤34359738200:=fun a=>by simp[aI]
 unfold mJ gQ
 rw[aC h,bd_s]
 simp only[Bool.not_true,cond_false]
 rw[aC h1,bd_s,aC ⟨h2,h3⟩,bd_s,aC ⟨h2,hm _⟩,bd_s]
 show(bif !(dS s z i (aI (aF2 s o z i c b))).2.2 then _ else _)=_
 cases(dS s z i (aI (aF2 s o z i c b))).2.2<;>rfl
theorem aDm {j:Int}(hj:j=0∨j=1):gP (Dl j)=(bM j,true)∧(aJ j).size≤34359738300∧(Dl j).size≤34359738300:=by
 rcases hj with rfl|rfl
 ·exact⟨by kernel_rfl,show 8≤34359738300 by omega,show 20≤34359738300 by omega⟩
 ·exact⟨by kernel_rfl,show 8≤34359738300 by omega,show 20≤34359738300 by omega⟩
theorem Bd (pub:Int)(a:D.aAJ)(z:ByteArray)(ch cnt:Int)(h:N9 a z):fJ pub a z ch cnt=some (eH pub a z ch cnt):=by
 obtain⟨j,hj,rfl,rfl|⟨hs,ho⟩⟩:=h
 ·unfold fJ
  rw[aC (show aB5 aQg.aAK from .inl rfl)]
  rcases hj with rfl|rfl<;>kernel_rfl
 ·obtain⟨h1,h2,h3⟩:=aDm hj
  have hm:(aI a).length=6:=by simp[aI]
  unfold fJ eH
  rw[aC (show aB5 a.aAK from .inr ⟨j,hj,ho⟩),bd_s,show gP a.aAK=(bM j,true) by rw[ho];exact h1,show(a.Site.toList==(aJ j).toList)=true by rw[hs];simp]
  simp only[Bool.not_true,cond_false]
  rw[aC (show iW (bM j) (aJ j) from⟨j,hj,rfl,rfl⟩),bd_s,bd_s]
  simp only[Bool.not_true,cond_false,bne]
  rw[aC (show a.Site.size≤34359738300∧a.aAK.size≤34359738300 by rw[hs,ho];exact⟨h2,h3⟩),bd_s,aC (show aU (aI a) [a.Counter] by unfold aU;simp only[hm,List.length_cons,List.length_nil];omega),aC (show(aI a++[a.Counter]).length≤34359738300 by simp only[List.length_append,hm,List.length_cons,List.length_nil];omega),bd_s]
  cases a.Present<;>cases a.aAG==ch<;>cases dC pub (aI a++[a.Counter]) a.Signature<;>cases decide (a.Counter≤cnt)<;>rfl
theorem Be (pub:Int)(a:D.aAJ)(z:ByteArray)(ch cnt:Int)(h:N9 a z):fK pub a z ch cnt=some (eH pub a z ch cnt):=by
 obtain⟨j,hj,rfl,rfl|⟨hs,ho⟩⟩:=h
 ·unfold fK
  rw[aC (show aB5 aQg.aAK from .inl rfl)]
  rcases hj with rfl|rfl<;>kernel_rfl
 ·obtain⟨h1,h2,h3⟩:=aDm hj
  have hm:(aI a).length=6:=by simp[aI]
  have e:jK (aI a) [[a.Counter]]=aI a++[a.Counter]:=by simp[jK]
  have hz:a.Site.size≤34359738300∧a.aAK.size≤34359738300:=by rw[hs,ho];exact⟨h2,h3⟩
  unfold fK eH
  rw[aC (show aB5 a.aAK from .inr ⟨j,hj,ho⟩),bd_s,show gP a.aAK=(bM j,true) by rw[ho];exact h1,show(a.Site.toList==(aJ j).toList)=true by rw[hs];simp]
  simp only[Bool.not_true,cond_false]
  rw[aC (show iW (bM j) (aJ j) from⟨j,hj,rfl,rfl⟩),bd_s,bd_s]
  simp only[Bool.not_true,cond_false,bne,aC hz,bd_s]
  rw[aC (show nH (aI a) [[a.Counter]] by simp[nH,hm]),bd_s,e,aC (show(aI a++[a.Counter]).length≤34359738300 by simp only[List.length_append,hm,List.length_cons,List.length_nil];omega),bd_s]
  cases a.Present<;>cases a.aAG==ch<;>cases dC pub (aI a++[a.Counter]) a.Signature<;>cases decide (a.Counter≤cnt)<;>rfl
theorem aNq {a:D.aAD}{h:Int}(hk:decide (aR a h<0)=false):aW a.Credentials (aR a h)=some (iC a (aR a h))∧(aR a h).toNat<a.Credentials.length:=by
 have hr:=sO (p:=fun c:D.aAH=>c.Handle==h) (i:=0) (l:=a.Credentials) hk
 exact⟨Ua (by unfold aR;omega) (by unfold aR;omega),by unfold aR;omega⟩
theorem Gl (a:D.aAD)(x:D.aAJ)(z:ByteArray)(c:Int)(h:N9 x z∧a.sz≤34359738368):mH a x z c=some (jO a x z c):=by
 obtain⟨hp,hz⟩:=h
 have hl:a.Credentials.length≤34359738368:=hz
 unfold mH jO
 simp only[aC hz,aC hl,bd_s]
 cases aY a with
 |false=>rfl
 |true=>
  cases hk:decide (aR a x.Handle<0) with
  |true=>rfl
  |false=>
   simp only[Bool.not_true,cond_false,(aNq hk).1,bd_s,Bool.false_or]
   cases(iC a (aR a x.Handle)).Cut with
   |true=>rfl
   |false=>
    simp only[aC hp,bd_s,cond_false]
    generalize eH (iC a (aR a x.Handle)).Public x z c (iC a (aR a x.Handle)).Counter=k
    cases k==0<;>cases k==4<;>rfl
theorem Gm (a:D.aAD)(x:D.aAJ)(z:ByteArray)(c:Int)(h:N9 x z∧a.sz≤34359738368):mO a x z c=some (jO a x z c):=by
 obtain⟨hp,hz⟩:=h
 have hl:a.Credentials.length≤34359738368:=hz
 unfold mO jO
 simp only[aC hz,aC hl,bd_s]
 cases aY a with
 |false=>rfl
 |true=>
  cases hk:decide (aR a x.Handle<0) with
  |true=>rfl
  |false=>
   simp only[Bool.not_true,cond_false,(aNq hk).1,bd_s,Bool.false_or]
   cases(iC a (aR a x.Handle)).Cut with
   |true=>rfl
   |false=>
    simp only[aC hp,bd_s,cond_false]
    generalize eH (iC a (aR a x.Handle)).Public x z c (iC a (aR a x.Handle)).Counter=k
    by_cases h0:k=0
    ·subst h0;rfl
    ·rw[beq_eq_false_iff_ne.2 h0]
     cases k==4 with
     |false=>rfl
     |true=>simp only[cond_true,cond_false,bd_s,(aNq hk).1]
theorem aO1 {s:D.Site}{i:Int}(hz:s.sz≤34359738300)(h:decide (aH s i<0)=false):aW s.Accounts (aH s i)=some (iD s (aH s i))∧(iD s (aH s i)).sz≤34359738300∧(aH s i).toNat<s.Accounts.length:=by
 have hr:=sO (p:=fun a:D.aAD=>a.Id==i) (i:=0) (l:=s.Accounts) h
 have hi:(aH s i).toNat<s.Accounts.length:=by unfold aH;omega
 have h1:=aOw (f:=D.aAD.sz) hi
 refine⟨Ua (by unfold aH;omega) (by unfold aH;omega),?_,hi⟩
 unfold iD
 simp only[D.Site.sz] at hz;omega
theorem Qb (s:D.Site)(i c n:Int)(x:D.aAJ)(h:N9 x s.Name∧s.sz≤34359738300):qO s i c n x=some (jQ s i c n x):=by
 obtain⟨hp,hz⟩:=h
 have hz1:s.sz≤34359738368:=by omega
 have hb:s.Book.sz≤34359738368:=by simp only[D.Site.sz,D.aAA.sz] at hz ⊢;omega
 have hl:s.Accounts.length≤34359738368:=by simp only[D.Site.sz] at hz;omega
 have ha:aU s.Logins [i]:=by unfold aU;simp only[D.Site.sz] at hz;simp only[List.length_cons,List.length_nil];omega
 unfold qO jQ
 simp only[aC hz1,aC hl,aC hb,bd_s]
 cases bX s with
 |false=>rfl
 |true=>
  simp only[Bool.not_true,cond_false,bd_s,Bool.false_or]
  cases hk:decide (aH s i<0) with
  |true=>rfl
  |false=>
   obtain⟨e1,e2,e3⟩:=aO1 hz hk
   simp only[cond_false]
   cases(qD s.Book c i n).2 with
   |false=>rfl
   |true=>
    simp only[Bool.not_true,cond_false,e1,bd_s,aC (show(iD s (aH s i)).sz≤34359738368 by omega)]
    cases jP (iD s (aH s i)) 3 with
    |false=>rfl
    |true=>
     simp only[Bool.not_true,cond_false,aC (show N9 x s.Name∧(iD s (aH s i)).sz≤34359738368 from⟨hp,by omega⟩),bd_s,aC ha,bne]
     cases hc:(jO (iD s (aH s i)) x s.Name (dJ s.Book c)).2==0 with
     |false=>rfl
     |true=>rw[eq_of_beq hc];rfl
theorem Qc (s:D.Site)(i c n:Int)(x:D.aAJ)(h:N9 x s.Name∧s.sz≤34359738300):rD s i c n x=some (jQ s i c n x):=by
 obtain⟨hp,hz⟩:=h
 have hz1:s.sz≤34359738368:=by omega
 have hb:s.Book.sz≤34359738368:=by simp only[D.Site.sz,D.aAA.sz] at hz ⊢;omega
 have hl:s.Accounts.length≤34359738368:=by simp only[D.Site.sz] at hz;omega
 have ha:aU s.Logins [i]:=by unfold aU;simp only[D.Site.sz] at hz;simp only[List.length_cons,List.length_nil];omega
 unfold rD jQ
 simp only[aC hz1,aC hl,aC hb,bd_s]
 cases bX s with
 |false=>rfl
 |true=>
  simp only[Bool.not_true,cond_false,bd_s,Bool.false_or]
  cases hk:decide (aH s i<0) with
  |true=>rfl
  |false=>
   obtain⟨e1,e2,e3⟩:=aO1 hz hk
   simp only[cond_false]
   cases(qD s.Book c i n).2 with
   |false=>rfl
   |true=>
    simp only[Bool.not_true,cond_false,e1,bd_s,aC (show(iD s (aH s i)).sz≤34359738368 by omega)]
    cases jP (iD s (aH s i)) 3 with
    |false=>rfl
    |true=>
     simp only[Bool.not_true,cond_false,aC (show N9 x s.Name∧(iD s (aH s i)).sz≤34359738368 from⟨hp,by omega⟩),bd_s,aC ha,bne]
     cases(jO (iD s (aH s i)) x s.Name (dJ s.Book c)).2==0<;>rfl
theorem Gn {w:D.World}(h:dI w=true):w.Sites.length=2∧w.Stolen.length=w.Devices.length∧w.Devices.length≤6∧kE iI 0 w.Sites=false:=by
 simp only[dI,bI,Bool.and_eq_true,decide_eq_true_eq,beq_iff_eq,Bool.not_eq_true'] at h
 exact⟨by omega,by omega,by omega,h.2⟩
theorem U3 (w:D.World)(d j:Int)(h:w.sz≤34359738368):zH w d j=some (dB w d j):=by
 unfold zH dB
 rw[aC h,bd_s]
 cases hw:dI w with
 |false=>rfl
 |true=>
  obtain⟨h1,h2,h3,_⟩:=Gn hw
  have e:bI d 0 (IntKind.i64.wrap ((w.Devices.length:Int)-1))=fP w d:=by
   rw[bA (by omega) (by omega)]
   unfold bI fP
   by_cases hd:d<(w.Devices.length:Int)
   ·rw[decide_eq_true hd,decide_eq_true (show d≤(w.Devices.length:Int)-1 by omega)]
   ·rw[decide_eq_false hd,decide_eq_false (show ¬d≤(w.Devices.length:Int)-1 by omega)]
  have e2:bI j 0 1=fC w j:=by
   unfold bI fC
   rw[h1,show((2:Nat):Int)=2 from rfl]
   by_cases hd:j<(2:Int)
   ·rw[decide_eq_true hd,decide_eq_true (show j≤1 by omega)]
   ·rw[decide_eq_false hd,decide_eq_false (show ¬j≤1 by omega)]
  rw[e,e2,cond_true]
  cases fP w d<;>cases fC w j<;>rfl
theorem aI1 {w:D.World}{d j:Int}(h:dB w d j=true):aW w.Stolen d=some (jM w d):=by
 simp only[dB,Bool.and_eq_true] at h
 obtain⟨h1,h2,h3,_⟩:=Gn h.1
 have hd:=h.2.1
 simp only[fP,Bool.and_eq_true,decide_eq_true_eq] at hd
 unfold jM
 rw[Sg hd.1 (by omega)];simp[List.getD,List.getElem?_eq_getElem (show d.toNat<w.Stolen.length by omega)]
theorem aGm (w:D.World)(d j:Int)(b:Bool)(h:w.sz≤34359738368):Nt w d j b=some (dB w d j&&jM w d==b):=by
 unfold Nt
 rw[aC h,bd_s]
 cases ht:dB w d j with
 |true=>
  have ht2:=ht
  simp only[dB,Bool.and_eq_true] at ht2
  rw[ht2.1,ht2.2.1,ht2.2.2,aI1 ht];rfl
 |false=>
  unfold dB at ht
  cases hw:dI w with
  |false=>rfl
  |true=>
   cases hd:fP w d with
   |false=>rfl
   |true=>
    cases hs:fC w j with
    |false=>rfl
    |true=>rw[hw,hd,hs] at ht;cases ht
theorem aO2 (j:Int):(ByteArray.mk #[UInt8.ofNat 119,UInt8.ofNat 119,UInt8.ofNat 119,UInt8.ofNat 46]).size+(aJ j).size≤9223372036854775807:=by
 unfold aJ;cases j==0<;>cases j==1<;>decide
theorem aMa (j:Int):L9 j=some (bM j):=by
 unfold L9
 rw[aC (aO2 j)];rfl
theorem Zr (s:ByteArray):Yh s=some (D.aAK.mk true s 443):=rfl
theorem aVt {a b:ByteArray}(h:a.toList=b.toList):a=b:=by
 rw[ByteArray.toList_eq,ByteArray.toList_eq] at h
 exact ByteArray.ext (Array.toList_inj.1 h)
theorem aSf {l:List D.Site}{k:Nat}:∀{i:Nat},kE iI i l=false→∀(h:k<l.length),bX l[k]=true∧l[k].Name=aJ ((i+k:Nat):Int):=by
 induction l generalizing k with
 |nil=>intro i _ h;simp at h
 |cons s l ih=>
  intro i ha h
  simp only[kE,Bool.or_eq_false_iff] at ha
  cases k with
  |zero=>
   have hb:=ha.1
   simp only[iI,Bool.or_eq_false_iff,Bool.not_eq_false'] at hb
   refine⟨hb.1,?_⟩
   have:=eq_of_beq hb.2
   exact aVt this
  |succ k=>
   have:=ih (k:=k) (i:=i+1) ha.2 (by simpa using h)
   simp only[List.getElem_cons_succ]
   refine⟨this.1,this.2.trans ?_⟩
   congr 1;omega
theorem aDn {w:D.World}{d j:Int}(h:dB w d j=true):aW w.Sites j=some (mU w j)∧(mU w j).sz≤w.sz∧(mU w j).Name=aJ j∧(j=0∨j=1)∧j.toNat<w.Sites.length:=by
 simp only[dB,Bool.and_eq_true] at h
 obtain⟨h1,h2,h3,h4⟩:=Gn h.1
 have hd:=h.2.2
 simp only[fC,Bool.and_eq_true,decide_eq_true_eq] at hd
 have hj:j.toNat<w.Sites.length:=by omega
 have hs:=aOw (f:=D.Site.sz) hj
 have e:mU w j=w.Sites[j.toNat]:=by unfold mU;simp[List.getD,List.getElem?_eq_getElem hj]
 refine⟨by rw[Sg hd.1 hj,e],?_,?_,by omega,hj⟩
 ·unfold mU;simp only[D.World.sz];omega
 ·rw[e,(aSf h4 hj).2];congr 1;omega
theorem aNr (s:D.Site)(i n:Int):(jN s i n).1.Name=s.Name∧(jN s i n).1.sz≤s.sz+1:=by
 unfold jN
 cases bX s&&(!decide (aH s i<0)&&(fI s.Book i n).2.2) with
 |false=>exact⟨rfl,Nat.le_succ _⟩
 |true=>
  refine⟨rfl,?_⟩
  have hb:(fI s.Book i n).1.Open.length≤s.Book.Open.length+1:=by
   unfold fI
   cases bW s.Book&&(!(s.Book.Next==1000000)&&(bI i 0 1000000&&bI n 0 1000000)) with
   |false=>simp only[cond_false];omega
   |true=>
    simp only[cond_true]
    cases decide ((s.Book.Open.length:Int)≥16) with
    |true=>simp only[cond_true,List.length_append,List.length_drop,List.length_cons,List.length_nil];omega
    |false=>simp only[cond_false,List.length_append,List.length_cons,List.length_nil];omega
  simp only[cond_true,D.Site.sz,D.aAA.sz];omega
theorem aNs (s:D.aAL)(h c:Int)(p:Bool){j:Int}(hj:j=0∨j=1):N9 (gQ s (bM j) (aJ j) h c p).2.1 (aJ j):=by
 refine⟨j,hj,rfl,?_⟩
 unfold gQ
 cases(dS s (aJ j) h (aI (aF2 s (bM j) (aJ j) h c p))).2.2 with
 |false=>exact .inl rfl
 |true=>exact .inr ⟨rfl,rfl⟩
theorem aT5 {w:D.World}{d j:Int}(h:dB w d j=true)(hz:w.sz≤34359738200):N9 (O0 w d j (bM j)).2.1 (oQ w j).1.Name∧(oQ w j).1.sz≤34359738300:=by
 obtain⟨_,h2,h3,h4,_⟩:=aDn h
 obtain⟨b1,b2⟩:=aNr (mU w j) 1 w.Now
 exact⟨by unfold O0 oQ;rw[b1,h3];exact aNs _ _ _ _ h4,by unfold oQ;omega⟩
theorem aGn (w:D.World)(d j:Int)(o:D.aAK)(h:qE o j∧w.sz≤34359738200):Np w d j o=some (uC w d j o):=by
 obtain⟨ho,hz⟩:=h
 have ho:o=bM j:=ho
 subst ho
 have hz1:w.sz≤34359738368:=by omega
 unfold Np uC
 simp only[aC hz1,bd_s]
 cases ht:dB w d j with
 |false=>rfl
 |true=>
  obtain⟨e1,e2,e3,e4,e5⟩:=aDn ht
  obtain⟨p1,p2⟩:=aT5 ht hz
  have ht2:=ht
  simp only[dB,Bool.and_eq_true] at ht2
  have ed:=aOu ht2.2.1
  have hm:w.Mail.sz≤34359738300:=by simp only[D.World.sz,D.aAI.sz] at hz ⊢;omega
  simp only[Bool.not_true,cond_false,e1,bd_s,aC (show(mU w j).sz≤34359738368 by omega)]
  rw[show jN (mU w j) 1 w.Now=oQ w j from rfl]
  cases hb:(oQ w j).2.2.2 with
  |false=>rfl
  |true=>
   simp only[Bool.not_true,cond_false,ed,bd_s,aC (show iW (bM j) (aJ j) from⟨j,e4,rfl,rfl⟩)]
   rw[show gQ (aIs w d).Store (bM j) (aJ j) d (oQ w j).2.2.1 true=O0 w d j (bM j) from rfl]
   simp only[aC (show N9 (O0 w d j (bM j)).2.1 (oQ w j).1.Name∧(oQ w j).1.sz≤34359738300 from⟨p1,p2⟩),bd_s,aC hm,bne]
   rw[show jQ (oQ w j).1 1 (oQ w j).2.1 w.Now (O0 w d j (bM j)).2.1=aQh w d j (bM j) from rfl]
   cases(aQh w d j (bM j)).2.1==0<;>rfl
theorem aJ7 (w:D.World)(d j:Int)(o:D.aAK)(h:qE o j∧w.sz≤34359738200):Uh w d j o=some (uC w d j o):=by
 obtain⟨ho,hz⟩:=h
 have ho:o=bM j:=ho
 subst ho
 have hz1:w.sz≤34359738368:=by omega
 unfold Uh uC
 simp only[aC hz1,bd_s]
 cases ht:dB w d j with
 |false=>
  unfold dB at ht
  cases hw:dI w with
  |false=>rfl
  |true=>
   cases hd:fP w d with
   |false=>rfl
   |true=>
    cases hs:fC w j with
    |false=>rfl
    |true=>rw[hw,hd,hs] at ht;cases ht
 |true=>
  obtain⟨e1,e2,e3,e4,e5⟩:=aDn ht
  obtain⟨p1,p2⟩:=aT5 ht hz
  have ht2:=ht
  simp only[dB,Bool.and_eq_true] at ht2
  have ed:=aOu ht2.2.1
  have hm:w.Mail.sz≤34359738300:=by simp only[D.World.sz,D.aAI.sz] at hz ⊢;omega
  have hj0:0≤j:=by omega
  have es:aW (w.Sites.set j.toNat (oQ w j).1) j=some (oQ w j).1:=by
   rw[Sg hj0 (by simpa using e5)];simp
  rw[ht2.1,ht2.2.1,ht2.2.2]
  simp only[Bool.not_true,cond_false,e1,bd_s,aC (show(mU w j).sz≤34359738368 by omega)]
  rw[show jN (mU w j) 1 w.Now=oQ w j from rfl]
  cases hb:(oQ w j).2.2.2 with
  |false=>rfl
  |true=>
   simp only[Bool.not_true,cond_false,ed,es,bd_s,aC (show iW (bM j) (aJ j) from⟨j,e4,rfl,rfl⟩)]
   rw[show gQ (aIs w d).Store (bM j) (aJ j) d (oQ w j).2.2.1 true=O0 w d j (bM j) from rfl]
   simp only[aC (show N9 (O0 w d j (bM j)).2.1 (oQ w j).1.Name∧(oQ w j).1.sz≤34359738300 from⟨p1,p2⟩),bd_s,aC hm,bne]
   rw[show jQ (oQ w j).1 1 (oQ w j).2.1 w.Now (O0 w d j (bM j)).2.1=aQh w d j (bM j) from rfl,List.set_set]
   cases(aQh w d j (bM j)).2.1==0<;>rfl
theorem U4 (w:D.World)(d j:Int)(o:D.aAK)(h:qE o j∧w.sz≤34359738200):zL w d j o=some (xP w d j o):=by
 unfold zL;rw[aC h];rfl
theorem U5 (w:D.World)(d j:Int)(o:D.aAK)(h:qE o j∧w.sz≤34359738200):zU w d j o=some (xP w d j o):=by
 unfold zU;rw[aC h];rfl
theorem Qd (w:D.World)(d j:Int)(hz:w.sz≤34359738200):qP w d j=some (gT w d j):=by
 have hz1:w.sz≤34359738368:=by omega
 unfold qP gT
 simp only[aC hz1,bd_s,aC (aO2 j)]
 cases ht:dB w d j with
 |false=>rfl
 |true=>
  simp only[Bool.not_true,cond_false,aI1 ht,bd_s,Bool.true_and]
  cases jM w d with
  |true=>rfl
  |false=>
   simp only[Bool.not_false,cond_false,cond_true]
   exact(wD (aC (show qE (bM j) j∧w.sz≤34359738200 from⟨rfl,hz⟩)) rfl)
theorem Qe (w:D.World)(d j:Int)(hz:w.sz≤34359738200):rE w d j=some (gT w d j):=by
 have hz1:w.sz≤34359738368:=by omega
 unfold rE gT
 simp only[aC hz1,bd_s]
 rw[show(jM w d==false)= !jM w d by cases jM w d<;>rfl]
 cases dB w d j&& !jM w d with
 |false=>rfl
 |true=>
  simp only[Bool.not_true,cond_false,cond_true]
  exact(wD (aC (show qE (bM j) j∧w.sz≤34359738200 from⟨rfl,hz⟩)) rfl)
theorem M0 {w:D.World}{d:Int}(hz:w.sz≤34359738200):bK (α:=Int) FUEL (fun rec1 (i1:Int×Nat)=>bif (decide ((↑i1.2:Int)<(2:Int))) then(bd (bd (gd (w.sz≤34359738200) (some (gT w d (↑i1.2:Int)))) fun z3=>bif (z3.2==(0:Int)) then(some (IntKind.i64.wrap (i1.1+(1:Int)))) else(some (i1.1))) fun z2=>rec1 ((z2,(i1.2+1)))) else(some (i1.1))) ((0:Int),0)=some (sP w d):=by
 rw[show FUEL=FUEL-3+1+1+1 from by have:=sI;omega]
 simp only[Tz,aC hz,bd_s]
 unfold sP
 simp only[show decide (((0:Nat):Int)<2)=true from rfl,show decide (((0+1:Nat):Int)<2)=true from rfl,show decide (((0+1+1:Nat):Int)<2)=false from rfl,cond_true,cond_false,bd_s,show((0:Nat):Int)=0 from rfl,show((0+1:Nat):Int)=1 from rfl]
 cases(gT w d 0).2==0<;>cases(gT w d 1).2==0<;>rfl
theorem Kk (w:D.World)(d:Int)(hz:w.sz≤34359738200):nT w d=some (sP w d):=by
 unfold nT
 rw[M0 hz];rfl
theorem Kl (w:D.World)(d:Int)(hz:w.sz≤34359738200):nY w d=some (sP w d):=by
 unfold nY
 rw[M0 hz];rfl
theorem aTn {α:Type}{n:Nat}{x:α}{β:Type}{k:Option β}(h:n≤68719476736):gd (bJ n x x) k=k:=aC ⟨rfl,by omega⟩
theorem aXw {w:D.World}(h:w.ok):(∀{k:Option Int},gd (cO D.World.ok w (1048576:Int)) k=k)∧((w.sz≤1048576∧bP w.sz 1048576=1048576-(w.sz:Int))∨bP w.sz 1048576= -1):=by
 refine⟨fun {k}=>aC ⟨h,by unfold szP;omega⟩,?_⟩
 unfold bP
 by_cases h:(w.sz:Int)≤1048576
 ·exact .inl ⟨by omega,if_pos h⟩
 ·exact .inr (if_neg h)
theorem aVu {n:Nat}{k:Option Bool}(h:n≤1048576):(bif decide ((1048576:Int)-(n:Int)<0) then some true else k)=k:=aFz (decide_eq_false (by omega))
theorem rH (w:D.World)(d:Int)(h:w.ok):gG w d=some true:=by
 unfold gG
 obtain⟨e0,⟨hs,e⟩|e⟩:=aXw h
 ·simp only[e0,bd_s,e,aVu hs,aC hs,aC (show w.sz≤34359738200 by omega),aTn (show w.sz≤68719476736 by omega),bne_self_eq_false,cond_false,Bool.not_true]
 ·simp only[e0,bd_s,e];rfl
end
end Go.VK
