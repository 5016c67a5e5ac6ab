import Derived.Test.YtaaefkcjgkpckaaGreatDoorXoPc
import Derived.Test.YtaaefkcjgkpckaaGreatDoorXoQ
/- Printed by wip/tools: models, walks, proofs. -/
set_option linter.unusedVariables false
set_option linter.unusedSimpArgs false
set_option maxRecDepth 100000
set_option maxHeartbeats 4000000
namespace Go.VK
open Go.RowKit Go.Proofs
noncomputable section
open EV (bM)
theorem aHg (a:D.Entry)(s h:Int):Jq a s h=some (qO a s h):=by
 unfold Jq qO
 cases decide (a.Site<s)<;>cases(a.Site==s)<;>rfl
theorem bB0 {l:List D.Entry}{i:Nat}(hi:i<l.length)(hl:l.length≤34359738368){q:D.Entry→Bool}(hq:∀x,q x=eX x l[i]):
  (bif (!aW l[i].Site (0:Int) (2147483646:Int)) then(some (true)) else(bif (!aW l[i].Handle (0:Int) (1000000:Int)) then(some (true)) else(bif (!aW l[i].Version (1:Int) (1000000:Int)) then(some (true)) else(bif (decide ((i:Int)>(0:Int))) then(bd (bA l (IntKind.i64.wrap ((i:Int)-(1:Int)))) fun(z4:(D.Entry))=>some (!q z4)) else(some (false))))))=some (aXg l i l[i]):=by
 unfold aXg
 cases aW l[i].Site 0 2147483646 with
 |false=>rfl
 |true=>
  cases aW l[i].Handle 0 1000000 with
  |false=>rfl
  |true=>
   cases aW l[i].Version 1 1000000 with
   |false=>rfl
   |true=>
    by_cases h0:(i:Int)>0
    ·rw[decide_eq_true h0,aG (by omega) (by omega)]
     have hat:bA l ((i:Int)-1)=some l[i-1]:=by
      rw[show(i:Int)-1=((i-1:Nat):Int) by omega];exact aH (by omega)
     have hg:l.getD (i-1) default=l[i-1]:=by rw[List.getD,List.getElem?_eq_getElem (by omega),Option.getD_some]
     simp only[hat,bd_s,hq,hg,Bool.not_true,cond_false,cond_true,Bool.false_or,Bool.true_and]
    ·rw[decide_eq_false h0];rfl
theorem aC8 (b:D.aAE)(h:b.sz≤34359738368):Ei b=some (aP b):=by
 simp only[D.aAE.sz] at h
 unfold Ei aP
 rw[eG (l:=b.Entries) (aXg b.Entries) (.inl false) (.inr ()) (by omega) (fun rec i hi=>by
  simp only[bU hi,cond_true,aH hi,bd_s]
  rw[bB0 hi h (q:=fun x=>qO x b.Entries[i].Site b.Entries[i].Handle) (fun x=>rfl)]
  rfl) (fun rec=>by simp only[bX,cond_false])]
 cases dJ (aXg b.Entries) 0 b.Entries with
 |true=>simp[nx]
 |false=>simp[nx]
theorem V8 (b:D.aAE)(s h:Int)(hz:b.sz≤34359738368):Ad b s h=some (aI b s h):=by
 simp only[D.aAE.sz] at hz
 unfold Ad aI
 exact aQh (l:=b.Entries) (fun(e:D.Entry)=>e.Site==s&&e.Handle==h) (by omega) (fun rec i hi=>by
  simp only[bU hi,cond_true,aH hi,bd_s]
  cases(b.Entries[i].Site==s)<;>rfl) (fun rec=>by simp only[bX,cond_false])
theorem aHh (b:D.aAE)(h:b.sz≤34359738368):Jo b=some (b):=by
 simp only[D.aAE.sz] at h
 unfold Jo
 rw[aA (by unfold aO;simp only[List.length_nil];omega)];rfl
theorem Yv (b:D.aAE)(h:b.sz≤34359738368):xL b=some (b):=by
 simp only[D.aAE.sz] at h
 unfold xL
 rw[aA (by unfold aO;simp only[List.length_nil];omega)];rfl
theorem aVy (p:D.Entry→Bool):∀(l:List D.Entry) (i:Nat),i≤(l.takeWhile p).length→(∃hi:i<l.length,p l[i]=true∧i<(l.takeWhile p).length)∨(i=(l.takeWhile p).length∧∀hi:i<l.length,p l[i]=false)
 |[],i,h=> .inr ⟨by simpa using h,fun hi=>by simp at hi⟩
 |x::l,i,h=>by
  rw[List.takeWhile_cons] at h ⊢
  cases hp:p x with
  |false=>
   rw[hp] at h
   simp at h
   subst h
   exact .inr ⟨by simp,fun _=>hp⟩
  |true=>
   rw[hp] at h
   simp only[if_true,List.length_cons] at h ⊢
   cases i with
   |zero=>exact .inl ⟨by simp,hp,by omega⟩
   |succ i=>
    rcases aVy p l i (by omega) with⟨h1,h2,h3⟩|⟨h1,h2⟩
    ·exact .inl ⟨by simpa using h1,h2,by omega⟩
    ·exact .inr ⟨by omega,fun hi=>h2 (by simpa using hi)⟩
theorem aVz (p:D.Entry→Bool):∀l:List D.Entry,l.take (l.takeWhile p).length=l.takeWhile p
 |[]=>rfl
 |x::l=>by
  rw[List.takeWhile_cons]
  cases p x with
  |false=>rfl
  |true=>simp only[if_true,List.length_cons,List.take_succ_cons];rw[aVz p l]
theorem aV0 (p:D.Entry→Bool):∀l:List D.Entry,l.drop (l.takeWhile p).length=l.dropWhile p
 |[]=>rfl
 |x::l=>by
  rw[List.takeWhile_cons,List.dropWhile_cons]
  cases p x with
  |false=>rfl
  |true=>simp only[if_true,List.length_cons,List.drop_succ_cons];rw[aV0 p l]
theorem aJ9 (b:D.aAE)(x:D.Entry)(h:b.sz≤34359738360):Qt b x=some (Cr b x):=by
 have h':=h
 simp only[D.aAE.sz] at h
 unfold Qt Cr
 rw[aA (by omega),bd_s,aA (by omega),bd_s]
 by_cases hf:aI b x.Site x.Handle≥0
 ·rw[decide_eq_true hf,cond_true,cond_true]
  have:=aE5 (show 0≤iC (fun e=>e.Site==x.Site&&e.Handle==x.Handle) 0 b.Entries from hf)
  have hlt:(aI b x.Site x.Handle).toNat<b.Entries.length:=by unfold aI;omega
  rw[Nb hf hlt];rfl
 ·rw[decide_eq_false hf,cond_false,cond_false]
  have htl:(b.Entries.takeWhile fun e=>qO e x.Site x.Handle).length≤b.Entries.length:=(List.takeWhile_sublist _).length_le
  rw[yM (fun i s=>i≤(b.Entries.takeWhile fun e=>qO e x.Site x.Handle).length∧s=(i:Int)) b.Entries.length (some ((b.Entries.takeWhile fun e=>qO e x.Site x.Handle).length:Int)) (s:=(0:Int)) (by omega) ⟨by omega,rfl⟩ (fun i s rec hi hv=>by
   obtain⟨h1,rfl⟩:=hv
   rcases aVy _ _ i h1 with⟨g1,g2,g3⟩|⟨g1,g2⟩
   ·refine .inl ⟨_,⟨by omega,rfl⟩,?_⟩
    simp only[bU hi,cond_true,aH hi,bd_s,g2]
    rw[aG (by omega) (by omega)];rfl
   ·refine .inr ?_
    simp only[bU hi,cond_true,aH hi,bd_s,g2 hi,cond_false]
    rw[←g1]) (fun s rec hv=>by
   obtain⟨h1,rfl⟩:=hv
   have e:b.Entries.length=(b.Entries.takeWhile fun e=>qO e x.Site x.Handle).length:=by omega
   simp only[bX,cond_false,bd_s]
   rw[←e]),bd_s]
  rw[aA ⟨by omega,by simpa using htl⟩,aA ⟨by omega,by simpa using htl⟩,aA (by unfold aO;simp;omega),aA (by unfold aO;simp;omega),aA (by unfold aO;simp;omega)]
  rw[Int.toNat_natCast,List.nil_append]
  rw[aVz,aV0]
theorem aYa {l:List D.Entry}{k:Int}(h0:0≤k)(h1:k.toNat<l.length)(x:D.Entry):(bd (bA l k) fun(z9:D.Entry)=>bif (decide (x.Version>z9.Version)) then(some (true)) else(bd (bA l k) fun(z10:D.Entry)=>bif (x.Version==z10.Version) then(some (x.Deleted)) else(some (false))))=some (yN x (l.getD k.toNat default)):=by
 rw[Nb h0 h1,List.getD,List.getElem?_eq_getElem h1,Option.getD_some]
 simp only[bd_s]
 unfold yN
 cases decide (x.Version>l[k.toNat].Version)<;>cases(x.Version==l[k.toNat].Version)<;>rfl
theorem Nw (a b:D.aAE)(h:a.sz≤34359738368∧b.sz≤34359738368):sG a b=some (lQ a b):=by
 unfold sG lQ
 rw[aA h.1,bd_s]
 cases ha:aP a with
 |false=>rw[aA h.1];rfl
 |true=>
  rw[aA h.2]
  cases hb:aP b with
  |false=>rw[aA h.1];rfl
  |true=>
   obtain⟨la,sa⟩:=bAp ha
   obtain⟨lb,sb⟩:=bAp hb
   rw[aA h.1]
   simp only[Bool.not_true,cond_false,cond_true,bd_s,Bool.and_self]
   rw[aMb (l:=b.Entries) (s0:=a.Entries) (fun o x=>dH o [x]) (fun i o=>srt o∧o.length≤20+i) (fun o=>some o) (by omega) ⟨sa,by omega⟩ (fun i o hi hv=>by
     have:=zI _ o [b.Entries[i]] (Nat.le_refl _)
     exact⟨aU8 hv.1,by simp only[List.length_singleton] at this;omega⟩) (fun rec i o hi hv=>by
     obtain⟨hs,hl⟩:=hv
     simp only[bU hi,cond_true,aH hi,bd_s]
     rw[aA (by simp only[D.aAE.sz];omega),bd_s,←bAo hs]
     have hk:(bif decide (aI ⟨o⟩ b.Entries[i].Site b.Entries[i].Handle<0) then some true else bd (bA o (aI ⟨o⟩ b.Entries[i].Site b.Entries[i].Handle)) fun(z9:D.Entry)=>bif (decide (b.Entries[i].Version>z9.Version)) then(some (true)) else(bd (bA o (aI ⟨o⟩ b.Entries[i].Site b.Entries[i].Handle)) fun(z10:D.Entry)=>bif (b.Entries[i].Version==z10.Version) then(some (b.Entries[i].Deleted)) else(some (false))))=some (decide (aI ⟨o⟩ b.Entries[i].Site b.Entries[i].Handle<0)||yN b.Entries[i] (o.getD (aI ⟨o⟩ b.Entries[i].Site b.Entries[i].Handle).toNat default)):=by
      by_cases hf:aI ⟨o⟩ b.Entries[i].Site b.Entries[i].Handle<0
      ·rw[decide_eq_true hf];rfl
      ·rw[decide_eq_false hf,cond_false]
       have:=aE5 (show 0≤iC (fun(e:D.Entry)=>e.Site==b.Entries[i].Site&&e.Handle==b.Entries[i].Handle) 0 o from by unfold aI at hf;simp only at hf;omega)
       rw[aYa (by omega) (by unfold aI;simp only;omega)];rfl
     rw[hk,bd_s]
     cases(decide (aI ⟨o⟩ b.Entries[i].Site b.Entries[i].Handle<0)||yN b.Entries[i] (o.getD (aI ⟨o⟩ b.Entries[i].Site b.Entries[i].Handle).toNat default)) with
     |false=>rfl
     |true=>rw[cond_true,cond_true,aA (by simp only[D.aAE.sz];omega)];rfl) (fun rec o _=>by simp only[bX,cond_false])]
   rw[aF9 _ _ sb,bd_s]
   have hm:=zI _ a.Entries b.Entries (Nat.le_refl _)
   rw[aA (by simp only[D.aAE.sz];omega),bd_s]
   cases aP ⟨dH a.Entries b.Entries⟩<;>rfl
end
end Go.VK
