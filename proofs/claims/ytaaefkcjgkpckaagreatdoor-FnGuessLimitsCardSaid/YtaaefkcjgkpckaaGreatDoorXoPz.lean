import Derived.Test.YtaaefkcjgkpckaaGreatDoorXoPyb
import Derived.Test.YtaaefkcjgkpckaaGreatDoorXoQ
import Derived.Test.YtaaefkcjgkpckaaGreatDoorLKatot
/- Printed by wip/tools: models, walks, proofs. -/
set_option linter.unusedVariables false
set_option linter.unusedSimpArgs false
set_option maxRecDepth 100000
set_option maxHeartbeats 4000000
namespace Go.VK
open Go.RowKit Go.Proofs
noncomputable section
open EV (bM)
theorem bEg {α:Type}{p:Prop}[Decidable p](a b:α):(if p then a else b)=bif decide p then a else b:=by
 by_cases q:p<;>simp[q]
theorem aT0 (l:List Int):aTq l=some (bA9 l):=rfl
theorem aYj (l:List Int)(i:Int)(h:0≤i):aM0 l i=some (atF l i):=by
 unfold aM0 atF
 by_cases hi:i<(l.length:Int)
 ·rw[decide_eq_true hi,cond_true,cond_true,zJ h (by omega)];rfl
 ·rw[decide_eq_false hi];rfl
theorem Ua (w:D.World)(h:w.sz≤34359738368):vJ w=some (dG w):=by
 have hl:w.Hosts.length≤34359738368:=by simp only[D.World.sz] at h;omega
 have hmax:(if w.aAL.Threshold>0 then w.aAL.Threshold else 0).toNat=w.aAL.Threshold.toNat:=by split<;>omega
 unfold vJ dG
 rw[aA h,bd_s]
 cases bK w with
 |false=>rfl
 |true=>
  cases ht:decide ((w.Hosts.length:Int)<w.aAL.Threshold) with
  |true=>rfl
  |false=>
   rw[decide_eq_false_iff_not] at ht
   simp only[Bool.not_true,cond_false,bd_s,Bool.false_or]
   rw[aA (show jG w.Hosts (if w.aAL.Threshold>0 then w.aAL.Threshold else 0) by refine⟨?_,?_⟩<;>(split<;>omega)),hmax]
   rw[fI (l:=w.Hosts.take w.aAL.Threshold.toNat) fJ (fun _ _=>True) (fun s=>some s) (by rw[List.length_take];omega) trivial (fun _ _ _ _=>trivial) (fun rec i s hi _=>by
    simp only[bU hi,cond_true,aH hi,bd_s]
    unfold fJ
    cases decide (fQ (w.Hosts.take w.aAL.Threshold.toNat)[i].State<(w.Hosts.take w.aAL.Threshold.toNat)[i].Monotonic)<;>simp only[cond_true,cond_false,bd_s]<;>rw[bEg]) (fun rec s _=>by simp only[bX,cond_false])]
   rfl
theorem aIe (a b:List D.aAB)(h:mF a.length a b∧a.length≤34359738368):Kj a b=some true:=by
 obtain⟨⟨rfl,_⟩,hl⟩:=h
 unfold Kj
 have:dI a a=true:=by
  unfold dI
  rw[decide_eq_true (Nat.le_refl _),Bool.true_and,Bool.not_eq_true']
  have key:∀(l r:List D.aAB) (i:Nat),a=l++r→l.length=i→dJ (fun i e=> !aS2 (a.getD i default) e) i r=false:=by
   intro l r
   induction r generalizing l with
   |nil=>intro i _ _;rfl
   |cons x r ih=>
    intro i he hi
    have hx:a.getD i default=x:=by rw[he,←hi];simp
    have hr:aS2 x x=true:=by unfold aS2;simp
    rw[dJ,hx,hr]
    simpa using ih (l++[x]) (i+1) (by simpa using he) (by simp[hi])
  exact key [] a 0 rfl rfl
 rw[beq_self_eq_true,cond_true,aA hl,this];rfl
theorem Ou (a b:D.aAE)(h:mF a.sz a b∧a.sz≤34359738368):sO a b=some true:=by
 obtain⟨⟨rfl,_⟩,hz⟩:=h
 have hl:a.Entries.length≤34359738368:=hz
 unfold sO
 rw[bne_self_eq_false,cond_false,pM (a:=a.Entries) (by omega) (fun rec i hi=>by simp[hi,aH hi]) (fun rec=>by simp)];rfl
theorem Ov (a b:D.Device)(h:mF a.sz a b∧a.sz≤34359738368):sP a b=some true:=by
 obtain⟨⟨rfl,_⟩,hz⟩:=h
 have h1:a.Log.length≤34359738368:=by simp only[D.Device.sz] at hz;omega
 have h2:a.aAE.sz≤34359738368:=by simp only[D.Device.sz,D.aAE.sz] at hz ⊢;omega
 unfold sP
 simp[aA (show mF a.Log.length a.Log a.Log∧a.Log.length≤34359738368 from⟨⟨rfl,by omega⟩,h1⟩),aA (show mF a.aAE.sz a.aAE a.aAE∧a.aAE.sz≤34359738368 from⟨⟨rfl,by omega⟩,h2⟩),bd]
theorem p9 (a b:D.aAF)(h:mF a.sz a b∧a.sz≤34359738368):xY a b=some true:=by
 obtain⟨⟨rfl,_⟩,hz⟩:=h
 have hl:a.Open.length≤34359738368:=hz
 unfold xY
 simp only[bne_self_eq_false,cond_false,bd_s]
 rw[pM (a:=a.Open) (by omega) (fun rec i hi=>by simp[hi,aH hi]) (fun rec=>by simp)];rfl
theorem aAb (a b:List Int)(h:mF a.length a b∧a.length≤34359738368):Bg a b=some true:=by
 obtain⟨⟨rfl,_⟩,hl⟩:=h
 unfold Bg
 rw[bne_self_eq_false,cond_false,pM (a:=a) (by omega) (fun rec i hi=>by simp[hi,aH hi]) (fun rec=>by simp)];rfl
theorem Kw (a b:D.aAG)(h:mF a.sz a b∧a.sz≤34359738368):rC a b=some true:=by
 obtain⟨⟨rfl,_⟩,hz⟩:=h
 have hl:a.Credentials.length≤34359738368:=hz
 unfold rC
 simp only[bne_self_eq_false,cond_false,bd_s]
 rw[pM (a:=a.Credentials) (by omega) (fun rec i hi=>by simp[hi,aH hi]) (fun rec=>by simp)];rfl
theorem aNa {α:Type}{f:α→Nat}{l:List α}{i:Nat}(hi:i<l.length):f l[i]≤(l.map f).sum:=by
 induction l generalizing i with
 |nil=>simp at hi
 |cons x l ih=>
  cases i with
  |zero=>simp
  |succ i=>have:=ih (i:=i) (by simpa using hi);simp only[List.getElem_cons_succ,List.map_cons,List.sum_cons];omega
theorem q8 (a b:D.Site)(h:mF a.sz a b∧a.sz≤34359738368):xZ a b=some true:=by
 obtain⟨⟨rfl,_⟩,hz⟩:=h
 have h1:a.Book.sz≤34359738368:=by simp only[D.Site.sz,D.aAF.sz] at hz ⊢;omega
 have h2:a.Logins.length≤34359738368:=by simp only[D.Site.sz] at hz;omega
 have h3:a.Accounts.length≤34359738368:=by simp only[D.Site.sz] at hz;omega
 have h4:∀i (hi:i<a.Accounts.length),a.Accounts[i].sz≤34359738368:=fun i hi=>by
  have:=aNa (f:=D.aAG.sz) hi
  simp only[D.Site.sz] at hz;omega
 unfold xZ
 simp only[beq_self_eq_true,Bool.not_true,bne_self_eq_false,cond_false,bd_s,aA (show mF a.Book.sz a.Book a.Book∧a.Book.sz≤34359738368 from⟨⟨rfl,by omega⟩,h1⟩),aA (show mF a.Logins.length a.Logins a.Logins∧a.Logins.length≤34359738368 from⟨⟨rfl,by omega⟩,h2⟩)]
 rw[pM (a:=a.Accounts) (by omega) (fun rec i hi=>by
  have:=h4 i hi
  simp[hi,aH hi,aA (show mF a.Accounts[i].sz a.Accounts[i] a.Accounts[i]∧a.Accounts[i].sz≤34359738368 from⟨⟨rfl,by omega⟩,this⟩),bd]) (fun rec=>by simp)];rfl
theorem q9 (a b:D.Box)(h:mF a.sz a b∧aR a.Data):yA a b=some true:=by
 obtain⟨⟨rfl,_⟩,hb⟩:=h
 unfold yA
 simp[aA hb,bd]
theorem De (a b:D.aAD)(h:mF a.sz a b∧(a.sz≤34359738368∧aXu a)):nT a b=some true:=by
 obtain⟨⟨rfl,_⟩,hz,hb⟩:=h
 have h3:a.Boxes.length≤34359738368:=by simp only[D.aAD.sz] at hz;omega
 have h4:∀i (hi:i<a.Boxes.length),a.Boxes[i].sz≤34359738368:=fun i hi=>by
  have:=aNa (f:=D.Box.sz) hi
  simp only[D.aAD.sz] at hz;omega
 unfold nT
 simp only[bne_self_eq_false,cond_false,bd_s]
 rw[pM (a:=a.Boxes) (by omega) (fun rec i hi=>by
  have:=h4 i hi
  simp[hi,aH hi,aA (show mF a.Boxes[i].sz a.Boxes[i] a.Boxes[i]∧aR a.Boxes[i].Data from⟨⟨rfl,by omega⟩,hb _ (List.getElem_mem hi)⟩),bd]) (fun rec=>by simp)];rfl
theorem Ub (a b:D.aAC)(h:mF a.sz a b∧aR a.Data):vM a b=some true:=by
 obtain⟨⟨rfl,_⟩,hb⟩:=h
 unfold vM
 simp[aA hb,bd]
theorem Uc (a b:D.aAH)(h:mF a.sz a b∧(a.sz≤34359738368∧rP a)):vN a b=some true:=by
 obtain⟨⟨rfl,_⟩,hz,hb⟩:=h
 have h1:a.Log.length≤34359738368:=by simp only[D.aAH.sz] at hz;omega
 have h2:a.Boxes.sz≤34359738368:=by simp only[D.aAH.sz,D.aAD.sz] at hz ⊢;omega
 have h3:a.History.length≤34359738368:=by simp only[D.aAH.sz] at hz;omega
 have h4:∀i (hi:i<a.History.length),a.History[i].sz≤34359738368:=fun i hi=>by
  have:=aNa (f:=D.aAC.sz) hi
  simp only[D.aAH.sz] at hz;omega
 unfold vN
 simp only[aA (show mF a.Log.length a.Log a.Log∧a.Log.length≤34359738368 from⟨⟨rfl,by omega⟩,h1⟩),aA (show mF a.Boxes.sz a.Boxes a.Boxes∧(a.Boxes.sz≤34359738368∧aXu a.Boxes) from⟨⟨rfl,by omega⟩,h2,hb.1⟩),bd_s,Bool.not_true,cond_false,bne_self_eq_false]
 rw[pM (a:=a.History) (by omega) (fun rec i hi=>by
  have:=h4 i hi
  simp[hi,aH hi,aA (show mF a.History[i].sz a.History[i] a.History[i]∧aR a.History[i].Data from⟨⟨rfl,by omega⟩,hb.2 _ (List.getElem_mem hi)⟩),bd]) (fun rec=>by simp)];rfl
theorem r9 (a b:D.aAA)(h:mF a.sz a b∧a.sz≤34359738368):yB a b=some true:=by
 obtain⟨⟨rfl,_⟩,hz⟩:=h
 have hl:a.Saved.length≤34359738368:=hz
 unfold yB
 simp only[beq_self_eq_true,Bool.and_self,Bool.and_true,Bool.not_true,bne_self_eq_false,cond_false,bd_s]
 rw[pM (a:=a.Saved) (by omega) (fun rec i hi=>by simp[hi,aH hi]) (fun rec=>by simp)];rfl
theorem Df (a b:List D.aAA)(h:mF (lW D.aAA.sz a) a b∧lW D.aAA.sz a≤34359738368):nU a b=some true:=by
 obtain⟨⟨rfl,_⟩,hz⟩:=h
 have hl:a.length≤34359738368:=by unfold lW at hz;omega
 have h4:∀i (hi:i<a.length),a[i].sz≤34359738368:=fun i hi=>by
  have:=aNa (f:=D.aAA.sz) hi
  unfold lW at hz;omega
 unfold nU
 rw[bne_self_eq_false,cond_false,pM (a:=a) (by omega) (fun rec i hi=>by
  have:=h4 i hi
  simp[hi,aH hi,aA (show mF a[i].sz a[i] a[i]∧a[i].sz≤34359738368 from⟨⟨rfl,by omega⟩,this⟩),bd]) (fun rec=>by simp)];rfl
theorem Gf (a b:D.aAJ)(h:mF a.sz a b∧a.sz≤34359738368):oW a b=some true:=by
 obtain⟨⟨rfl,_⟩,hz⟩:=h
 have hl:a.Notices.length≤34359738368:=hz
 unfold oW
 rw[bne_self_eq_false,cond_false,pM (a:=a.Notices) (by omega) (fun rec i hi=>by simp[hi,aH hi]) (fun rec=>by simp)];rfl
theorem Ud (a b:D.World)(h:mF a.sz a b∧(a.sz≤34359738368∧rP a.aAH)):vO a b=some true:=by
 obtain⟨⟨rfl,_⟩,hz,hb⟩:=h
 have h1:a.Devices.length≤34359738368∧a.Stolen.length≤34359738368∧a.Sites.length≤34359738368∧a.aAH.sz≤34359738368∧lW D.aAA.sz a.Hosts≤34359738368∧a.Mail.sz≤34359738368:=by
  simp only[D.World.sz,D.aAH.sz,D.aAD.sz,D.aAJ.sz,lW] at hz ⊢;omega
 have h4:∀i (hi:i<a.Devices.length),a.Devices[i].sz≤34359738368:=fun i hi=>by
  have:=aNa (f:=D.Device.sz) hi
  simp only[D.World.sz] at hz;omega
 have h5:∀i (hi:i<a.Sites.length),a.Sites[i].sz≤34359738368:=fun i hi=>by
  have:=aNa (f:=D.Site.sz) hi
  simp only[D.World.sz] at hz;omega
 unfold vO
 simp only[bne_self_eq_false,beq_self_eq_true,Bool.and_self,Bool.and_true,Bool.not_true,cond_false,bd_s]
 rw[pM (a:=a.Devices) (by omega) (fun rec i hi=>by
  have:=h4 i hi
  simp[hi,aH hi,aA (show mF a.Devices[i].sz a.Devices[i] a.Devices[i]∧a.Devices[i].sz≤34359738368 from⟨⟨rfl,by omega⟩,this⟩),bd]) (fun rec=>by simp),nx_r]
 rw[pM (a:=a.Stolen) (by omega) (fun rec i hi=>by simp[hi,aH hi]) (fun rec=>by simp),nx_r]
 rw[pM (a:=a.Sites) (by omega) (fun rec i hi=>by
  have:=h5 i hi
  simp[hi,aH hi,aA (show mF a.Sites[i].sz a.Sites[i] a.Sites[i]∧a.Sites[i].sz≤34359738368 from⟨⟨rfl,by omega⟩,this⟩),bd]) (fun rec=>by simp),nx_r]
 simp only[aA (show mF a.aAH.sz a.aAH a.aAH∧(a.aAH.sz≤34359738368∧rP a.aAH) from⟨⟨rfl,by omega⟩,h1.2.2.2.1,hb⟩),aA (show mF (lW D.aAA.sz a.Hosts) a.Hosts a.Hosts∧lW D.aAA.sz a.Hosts≤34359738368 from⟨⟨rfl,by omega⟩,h1.2.2.2.2.1⟩),aA (show mF a.Mail.sz a.Mail a.Mail∧a.Mail.sz≤34359738368 from⟨⟨rfl,by omega⟩,h1.2.2.2.2.2⟩),bd_s,cond_true]
theorem nxR {α β:Type}{x:Option (α⊕β)}{f:β→Option α}{b:β}{r:Option α}(h:x=some (.inr b))(h2:f b=r):nx x f=r:=by rw[h];exact h2
theorem aT1 (k:Int)(b:List Int):∀z∈oG k b,0≤z∧z≤255:=fun z hz=>by
 obtain⟨i,hi,e⟩:=List.mem_iff_getElem.1 hz
 unfold oG at hi e
 have hl:i<b.length:=by
  have:=zL k b
  unfold oG at this;omega
 rw[aVu hl] at e
 rw[←e]
 unfold aXk
 rw[IntKind.wrap_u8];omega
theorem aV6 {k:Int}{b:List Int}(h:b.length≤34359738368):aR (oG k b):=
 ⟨by rw[zL];exact h,List.all_eq_true.2 fun z hz=>by
  have:=aT1 k b z hz
  rw[decide_eq_true this.1,decide_eq_true this.2];rfl⟩
theorem aYk {n k t pin seed:Int}(h:aGq n k t pin seed=true):rP (aV n k t pin seed).aAH:=by
 have hn:n.toNat=1∨n.toNat=2∨n.toNat=3:=by
  unfold aGq at h
  simp only[Bool.and_eq_true] at h
  have:=gM h.1;omega
 have ec:(aV n k t pin seed).aAH=⟨aM seed n.toNat,dY seed n.toNat,[Ye (bI seed 0) 0 1 (nwB n.toNat)]⟩:=by
  unfold aV;rw[h];exact aX6 hn
 rw[ec]
 refine⟨fun x hx=> ?_,fun s hs=> ?_⟩
 ·obtain⟨i,hi,e⟩:=List.mem_iff_getElem.1 hx
  obtain⟨e',_,he⟩:=(bBq (seed:=seed) (n:=n.toNat) (by omega) (by omega)).box i hi
  have e:(dY seed n.toNat).Boxes[i]=x:=e
  rw[←e,he]
  exact aV6 (by have:=bE0 (aN (aM seed n.toNat)) (bI seed 0);omega)
 ·have hs:s=Ye (bI seed 0) 0 1 (nwB n.toNat):=by simpa using hs
  rw[hs]
  refine aV6 ?_
  have:=R8 (nwB n.toNat)
  omega
abbrev WG:=Int×Int×List D.Device×List Bool×List D.aAB×Int×List D.Box×List D.aAC×List D.Site×Int×Int×Int×Int×List D.aAA×Int×List D.aAP
abbrev aT2 (w:D.World):WG:=(w.Now,w.Seed,w.Devices,w.Stolen,w.aAH.Log,w.aAH.Boxes.Epoch,w.aAH.Boxes.Boxes,w.aAH.History,w.Sites,w.aAL.Salt,w.aAL.Threshold,w.aAL.Check,w.aAL.Masked,w.Hosts,w.Pin,w.Mail.Notices)
def rG (l:List Int)(seed:Int):Nat→D.World
 |0=>aV 1 3 2 500 seed
 |i+1=>(jU (rG l seed i) (atF l ((i+1:Nat):Int))).1
theorem aV7 {l:List Int}(h:U0 l)(hb:l.length≤1048576){seed:Int}(hs:1≤seed∧seed≤256):∀i,i≤12→GS seed (min 5 i) (rG l seed i)∧(rG l seed i).sz≤100000+3*i∧rP (rG l seed i).aAH
 |0,_=>by
  obtain⟨g1,g2,g3⟩:=bE4 (seed:=seed) (by omega)
  refine⟨g1,g3,aYk ?_⟩
  unfold aGq
  rw[show bJ seed=true from gT (by omega) (by omega)];decide
 |i+1,hi=>by
  obtain⟨g1,g2,g3⟩:=aV7 h hb hs i (by omega)
  have ha:=bBa h hb (i:=((i+1:Nat):Int)) (by omega) (by omega)
  have g4:=g1.aCL (by omega) (g:=atF l ((i+1:Nat):Int)) (by omega)
  refine⟨?_,?_,?_⟩
  ·rw[show min 5 (i+1)=min 5 (min 5 i+1) by omega];exact g4
  ·have hz:=bDt (rG l seed i) (mU (rG l seed i)) (atF l ((i+1:Nat):Int))
   have hl:(mU (rG l seed i)).length=2:=by
    unfold mU
    rw[g1.vault,Sk (by omega),g1.hosts];rfl
   rw[hl] at hz
   show(cB _ _ _).1.sz≤_
   omega
  ·have:(rG l seed (i+1)).aAH=(rG l seed i).aAH:=by
    show(cB _ _ _).1.aAH=_
    unfold cB
    cases bK (rG l seed i)<;>rfl
   rw[this];exact g3
theorem bHn {i:Nat}:Rx 0 (IntKind.i64.wrap (5-((min 5 i:Nat):Int)-1))=5-((min 5 (i+1):Nat):Int):=by
 rw[aG (by omega) (by omega)]
 unfold Rx
 by_cases h:i<5
 ·by_cases h4:i=4
  ·subst h4;rfl
  ·rw[decide_eq_true (by omega),cond_true];omega
 ·rw[decide_eq_false (by omega),cond_false];omega
theorem Ky (l:List Int)(h:U0 l):rF l=some true:=by
 unfold rF
 cases hb:bA9 l with
 |true=>rfl
 |false=>
  have hlen:l.length≤1048576:=by
   unfold bA9 at hb
   rw[decide_eq_false_iff_not] at hb;omega
  have r0:=bBa h hlen (i:=0) (by omega) (by omega)
  have r14:=bBa h hlen (i:=14) (by omega) (by omega)
  rw[cond_false,aA (Int.le_refl 0),bd_s,aG (show-9223372036854775808≤1+atF l 0 by omega) (by omega)]
  generalize hsd:1+atF l 0=seed
  have hs:1≤seed∧seed≤256:=by omega
  have key:=aV7 h hlen hs
  have h0:=key 0 (by omega)
  have h0l:=h0.1.left (by omega)
  have h12:=key 12 (by omega)
  rw[aA (show(aV 1 3 2 500 seed).sz≤34359738368 from by have:=h0.2.1;show(rG l seed 0).sz≤_;omega),bd_s,show dG (aV 1 3 2 500 seed)=5-((min 5 0:Nat):Int) from h0l]
  refine nxR (b:=((0:Int),aT2 (rG l seed 12))) (yM (fun i s=>s=(5-((min 5 i:Nat):Int),i,aT2 (rG l seed i))) 12 _ (by omega) rfl (fun i s rec hi hv=> ?_) (fun s rec hv=> ?_)) ?_
  rotate_left 2
  ·rw[aA (show(0:Int)≤14 by decide),bd_s,aA (show(5:Int)≠0 by decide)]
   generalize rG l seed 12=w at h12
   obtain⟨g1,g2,g3⟩:=h12
   have g1:GS seed 5 w:=g1
   have hz:w.sz≤100036:=g2
   show bd (gd (w.sz≤34359738368) (some (dM w 0 ((atF l 14).tmod 5)))) _=_
   have hm:0≤(atF l 14).tmod 5∧(atF l 14).tmod 5≤4:=by
    have:=Int.tmod_nonneg (a:=atF l 14) 5 (by omega)
    have:=Int.tmod_lt_of_pos (atF l 14) (show(0:Int)<5 by decide)
    omega
   obtain⟨k1,k2,k3⟩:=g1.roll (by omega) hm
   obtain⟨n1,n2,n3⟩:=g1.renew hs
   have z1:=bBp w 0 ((atF l 14).tmod 5)
   have z2:=aJ3 w
   rw[aA (show w.sz≤34359738368 by omega),bd_s,k1]
   simp only[Bool.not_true,cond_false]
   rw[aA (show(dM w 0 ((atF l 14).tmod 5)).1.sz≤34359738368 by omega),bd_s,k2]
   simp only[bd_s,bne_self_eq_false,cond_false]
   rw[aA (show(dM w 0 ((atF l 14).tmod 5)).1.sz≤34359738368 by omega),bd_s]
   show bd (gd (w.sz≤34359738368) (some (bR w))) _=_
   rw[aA (show w.sz≤34359738368 by omega),bd_s,aA (show(bR w).1.sz≤34000000000∧[(1:Int),2].length≤100000000 from⟨by omega,by decide⟩),bd_s,k3,n1,aA (show(bR w).1.sz≤34359738368 by omega),bd_s,n2,n3]
   show bd (bif (0:Int)==0 then(bif true then(bif true then(bif (5:Int)==5 then(bif true then some (Cn w==Cn w) else _) else _) else _) else _) else _) _=_
   simp
  ·have hv:s=(5-((min 5 i:Nat):Int),i,aT2 (rG l seed i)):=hv
   subst hv
   obtain⟨g1,g2,g3⟩:=key i (by omega)
   obtain⟨q1,q2,q3⟩:=key (i+1) (by omega)
   have ql:=q1.left (by omega)
   have e:(jU (rG l seed i) (atF l ((i+1:Nat):Int))).1=rG l seed (i+1):=rfl
   refine .inl ⟨(5-((min 5 (i+1):Nat):Int),i+1,aT2 (rG l seed (i+1))),rfl,?_⟩
   generalize rG l seed i=u at g1 g2 g3 e
   have hu:u.sz≤100036:=by omega
   show(bif decide ((i:Int)<12) then(bd (gd ((0:Int)≤((i+1:Nat):Int)) (some (atF l ((i+1:Nat):Int)))) fun z4=>bd (gd (u.sz≤33000000) (some (jU u z4))) fun z5=>bd (gd ((0:Int)≤((i+1:Nat):Int)) (some (atF l ((i+1:Nat):Int)))) fun z6=>bd (gd (u.sz≤33000000) (some (jU u z6))) fun z7=>
    bd (bif (!z5.2==z7.2) then(some (true)) else(bd (gd (mF z5.1.sz z5.1 z7.1∧z5.1.sz≤34359738368∧rP z5.1.aAH) (some (true))) fun z9=>bif (!z9) then(some (true)) else(bd (gd (z5.1.sz≤34359738368) (some (dG z5.1))) fun z10=>some (z10 !=Rx (0:Int) (IntKind.i64.wrap (5-((min 5 i:Nat):Int)-(1:Int))))))) fun z8=>bif z8 then(some (.inl (false))) else(rec ((Rx (0:Int) (IntKind.i64.wrap (5-((min 5 i:Nat):Int)-(1:Int))),(i+1),aT2 z5.1)))) else(some (.inr (5-((min 5 i:Nat):Int),aT2 u))))=_
   rw[decide_eq_true (show(i:Int)<12 by omega),cond_true,aA (show(0:Int)≤((i+1:Nat):Int) by omega),bd_s,aA (show u.sz≤33000000 by omega),bd_s,bd_s,aA (show u.sz≤33000000 by omega),bd_s,bHn,e]
   have hq:(rG l seed (i+1)).sz≤34359738368:=by omega
   rw[aA (show mF (rG l seed (i+1)).sz (rG l seed (i+1)) (rG l seed (i+1))∧(rG l seed (i+1)).sz≤34359738368∧rP (rG l seed (i+1)).aAH from⟨⟨rfl,by omega⟩,hq,q3⟩),bd_s,aA hq,bd_s,ql]
   simp
  ·have hv:s=(5-((min 5 12:Nat):Int),12,aT2 (rG l seed 12)):=hv
   subst hv
   rfl
end
end Go.VK
