import Derived.Test.YtaaefkcjgkpckaaGreatDoorXoPb
import Derived.Test.YtaaefkcjgkpckaaGreatDoorXoM
/- Printed by wip/tools: models, walks, proofs. -/
set_option linter.unusedVariables false
set_option linter.unusedSimpArgs false
set_option maxRecDepth 100000
set_option maxHeartbeats 4000000
namespace Go.VK
open Go.RowKit Go.Proofs
noncomputable section
open EV (dL)
theorem aGv (a:D.Entry)(s h:Int):Ko a s h=some (rP a s h):=by
 unfold Ko rP
 cases decide (a.Site<s)<;>cases(a.Site==s)<;>rfl
theorem bBx {l:List D.Entry}{i:Nat}(hi:i<l.length)(hl:l.length≤34359738368){q:D.Entry→Bool}(hq:∀x,q x=eO x l[i]):
  (bif (!bR l[i].Site (0:Int) (2147483646:Int)) then(some (true)) else(bif (!bR l[i].Handle (0:Int) (1000000:Int)) then(some (true)) else(bif (!bR l[i].Version (1:Int) (1000000:Int)) then(some (true)) else(bif (decide ((i:Int)>(0:Int))) then(bd (bT l (IntKind.i64.wrap ((i:Int)-(1:Int)))) fun(z4:(D.Entry))=>some (!q z4)) else(some (false))))))=some (aNs l i l[i]):=by
 unfold aNs
 cases bR l[i].Site 0 2147483646 with
 |false=>rfl
 |true=>
  cases bR l[i].Handle 0 1000000 with
  |false=>rfl
  |true=>
   cases bR l[i].Version 1 1000000 with
   |false=>rfl
   |true=>
    by_cases h0:(i:Int)>0
    ·rw[decide_eq_true h0,aK (by omega) (by omega)]
     have hat:bT l ((i:Int)-1)=some l[i-1]:=by
      rw[show(i:Int)-1=((i-1:Nat):Int) by omega];exact aR (by omega)
     have hg:l.getD (i-1) default=l[i-1]:=by rw[List.getD,List.getElem?_eq_getElem (by omega),Option.getD_some]
     simp only[hat,bd_s,hq,hg,Bool.not_true,cond_false,cond_true,Bool.false_or,Bool.true_and]
    ·rw[decide_eq_false h0];rfl
theorem aCb (b:D.aAE)(h:b.sz≤34359738368):Fa b=some (aP b):=by
 simp only[D.aAE.sz] at h
 unfold Fa aP
 rw[jK (l:=b.Entries) (aNs b.Entries) (.inl false) (.inr ()) (by omega) (fun rec i hi=>by
  simp only[dZ hi,cond_true,aR hi,bd_s]
  rw[bBx hi h (q:=fun x=>rP x b.Entries[i].Site b.Entries[i].Handle) (fun x=>rfl)]
  rfl) (fun rec=>by simp only[eD,cond_false])]
 cases jB (aNs b.Entries) 0 b.Entries with
 |true=>simp[nx]
 |false=>simp[nx]
theorem R6 (b:D.aAE)(s h:Int)(hz:b.sz≤34359738368):Aq b s h=some (aJ b s h):=by
 simp only[D.aAE.sz] at hz
 unfold Aq aJ
 exact zU (l:=b.Entries) (fun(e:D.Entry)=>e.Site==s&&e.Handle==h) (by omega) (fun rec i hi=>by
  simp only[dZ hi,cond_true,aR hi,bd_s]
  cases(b.Entries[i].Site==s)<;>rfl) (fun rec=>by simp only[eD,cond_false])
theorem aGw (b:D.aAE)(h:b.sz≤34359738368):Km b=some (b):=by
 simp only[D.aAE.sz] at h
 unfold Km
 rw[aG (by unfold aX;simp only[List.length_nil];omega)];rfl
theorem Zb (b:D.aAE)(h:b.sz≤34359738368):yP b=some (b):=by
 simp only[D.aAE.sz] at h
 unfold yP
 rw[aG (by unfold aX;simp only[List.length_nil];omega)];rfl
theorem aVp (p:D.Entry→Bool):∀(l:List D.Entry) (i:Nat),i≤(l.takeWhile p).length→(∃hi:i<l.length,p l[i]=true∧i<(l.takeWhile p).length)∨(i=(l.takeWhile p).length∧∀hi:i<l.length,p l[i]=false)
 |[],i,h=> .inr ⟨by simpa using h,fun hi=>by simp at hi⟩
 |x::l,i,h=>by
  rw[List.takeWhile_cons] at h ⊢
  cases hp:p x with
  |false=>
   rw[hp] at h
   simp at h
   subst h
   exact .inr ⟨by simp,fun _=>hp⟩
  |true=>
   rw[hp] at h
   simp only[if_true,List.length_cons] at h ⊢
   cases i with
   |zero=>exact .inl ⟨by simp,hp,by omega⟩
   |succ i=>
    rcases aVp p l i (by omega) with⟨h1,h2,h3⟩|⟨h1,h2⟩
    ·exact .inl ⟨by simpa using h1,h2,by omega⟩
    ·exact .inr ⟨by omega,fun hi=>h2 (by simpa using hi)⟩
theorem aVq (p:D.Entry→Bool):∀l:List D.Entry,l.take (l.takeWhile p).length=l.takeWhile p
 |[]=>rfl
 |x::l=>by
  rw[List.takeWhile_cons]
  cases p x with
  |false=>rfl
  |true=>simp only[if_true,List.length_cons,List.take_succ_cons];rw[aVq p l]
theorem aVr (p:D.Entry→Bool):∀l:List D.Entry,l.drop (l.takeWhile p).length=l.dropWhile p
 |[]=>rfl
 |x::l=>by
  rw[List.takeWhile_cons,List.dropWhile_cons]
  cases p x with
  |false=>rfl
  |true=>simp only[if_true,List.length_cons,List.drop_succ_cons];rw[aVr p l]
theorem aJo (b:D.aAE)(x:D.Entry)(h:b.sz≤34359738360):Ra b x=some (uO b x):=by
 have h':=h
 simp only[D.aAE.sz] at h
 unfold Ra uO
 rw[aG (by omega),bd_s,aG (by omega),bd_s]
 by_cases hf:aJ b x.Site x.Handle≥0
 ·rw[decide_eq_true hf,cond_true,cond_true]
  have:=aEa (show 0≤iL (fun e=>e.Site==x.Site&&e.Handle==x.Handle) 0 b.Entries from hf)
  have hlt:(aJ b x.Site x.Handle).toNat<b.Entries.length:=by unfold aJ;omega
  rw[uI hf hlt];rfl
 ·rw[decide_eq_false hf,cond_false,cond_false]
  have htl:(b.Entries.takeWhile fun e=>rP e x.Site x.Handle).length≤b.Entries.length:=(List.takeWhile_sublist _).length_le
  rw[aPv (fun i s=>i≤(b.Entries.takeWhile fun e=>rP e x.Site x.Handle).length∧s=(i:Int)) b.Entries.length (some ((b.Entries.takeWhile fun e=>rP e x.Site x.Handle).length:Int)) (s:=(0:Int)) (by omega) ⟨by omega,rfl⟩ (fun i s rec hi hv=>by
   obtain⟨h1,rfl⟩:=hv
   rcases aVp _ _ i h1 with⟨g1,g2,g3⟩|⟨g1,g2⟩
   ·refine .inl ⟨_,⟨by omega,rfl⟩,?_⟩
    simp only[dZ hi,cond_true,aR hi,bd_s,g2]
    rw[aK (by omega) (by omega)];rfl
   ·refine .inr ?_
    simp only[dZ hi,cond_true,aR hi,bd_s,g2 hi,cond_false]
    rw[←g1]) (fun s rec hv=>by
   obtain⟨h1,rfl⟩:=hv
   have e:b.Entries.length=(b.Entries.takeWhile fun e=>rP e x.Site x.Handle).length:=by omega
   simp only[eD,cond_false,bd_s]
   rw[←e]),bd_s]
  rw[aG ⟨by omega,by simpa using htl⟩,aG ⟨by omega,by simpa using htl⟩,aG (by unfold aX;simp;omega),aG (by unfold aX;simp;omega),aG (by unfold aX;simp;omega)]
  rw[Int.toNat_natCast,List.nil_append]
  rw[aVq,aVr]
theorem aX9 {l:List D.Entry}{k:Int}(h0:0≤k)(h1:k.toNat<l.length)(x:D.Entry):(bd (bT l k) fun(z9:D.Entry)=>bif (decide (x.Version>z9.Version)) then(some (true)) else(bd (bT l k) fun(z10:D.Entry)=>bif (x.Version==z10.Version) then(some (x.Deleted)) else(some (false))))=some (nG x (l.getD k.toNat default)):=by
 rw[uI h0 h1,List.getD,List.getElem?_eq_getElem h1,Option.getD_some]
 simp only[bd_s]
 unfold nG
 cases decide (x.Version>l[k.toNat].Version)<;>cases(x.Version==l[k.toNat].Version)<;>rfl
theorem Pg (a b:D.aAE)(h:a.sz≤34359738368∧b.sz≤34359738368):tT a b=some (iB a b):=by
 unfold tT iB
 rw[aG h.1,bd_s]
 cases ha:aP a with
 |false=>rw[aG h.1];rfl
 |true=>
  rw[aG h.2]
  cases hb:aP b with
  |false=>rw[aG h.1];rfl
  |true=>
   obtain⟨la,sa⟩:=aSr ha
   obtain⟨lb,sb⟩:=aSr hb
   rw[aG h.1]
   simp only[Bool.not_true,cond_false,cond_true,bd_s,Bool.and_self]
   rw[aLp (l:=b.Entries) (s0:=a.Entries) (fun o x=>bJ o [x]) (fun i o=>srt o∧o.length≤20+i) (fun o=>some o) (by omega) ⟨sa,by omega⟩ (fun i o hi hv=>by
     have:=zX _ o [b.Entries[i]] (Nat.le_refl _)
     exact⟨aU1 hv.1,by simp only[List.length_singleton] at this;omega⟩) (fun rec i o hi hv=>by
     obtain⟨hs,hl⟩:=hv
     simp only[dZ hi,cond_true,aR hi,bd_s]
     rw[aG (by simp only[D.aAE.sz];omega),bd_s,←aP1 hs]
     have hk:(bif decide (aJ ⟨o⟩ b.Entries[i].Site b.Entries[i].Handle<0) then some true else bd (bT o (aJ ⟨o⟩ b.Entries[i].Site b.Entries[i].Handle)) fun(z9:D.Entry)=>bif (decide (b.Entries[i].Version>z9.Version)) then(some (true)) else(bd (bT o (aJ ⟨o⟩ b.Entries[i].Site b.Entries[i].Handle)) fun(z10:D.Entry)=>bif (b.Entries[i].Version==z10.Version) then(some (b.Entries[i].Deleted)) else(some (false))))=some (decide (aJ ⟨o⟩ b.Entries[i].Site b.Entries[i].Handle<0)||nG b.Entries[i] (o.getD (aJ ⟨o⟩ b.Entries[i].Site b.Entries[i].Handle).toNat default)):=by
      by_cases hf:aJ ⟨o⟩ b.Entries[i].Site b.Entries[i].Handle<0
      ·rw[decide_eq_true hf];rfl
      ·rw[decide_eq_false hf,cond_false]
       have:=aEa (show 0≤iL (fun(e:D.Entry)=>e.Site==b.Entries[i].Site&&e.Handle==b.Entries[i].Handle) 0 o from by unfold aJ at hf;simp only at hf;omega)
       rw[aX9 (by omega) (by unfold aJ;simp only;omega)];rfl
     rw[hk,bd_s]
     cases(decide (aJ ⟨o⟩ b.Entries[i].Site b.Entries[i].Handle<0)||nG b.Entries[i] (o.getD (aJ ⟨o⟩ b.Entries[i].Site b.Entries[i].Handle).toNat default)) with
     |false=>rfl
     |true=>rw[cond_true,cond_true,aG (by simp only[D.aAE.sz];omega)];rfl) (fun rec o _=>by simp only[eD,cond_false])]
   rw[aFd _ _ sb,bd_s]
   have hm:=zX _ a.Entries b.Entries (Nat.le_refl _)
   rw[aG (by simp only[D.aAE.sz];omega),bd_s]
   cases aP ⟨bJ a.Entries b.Entries⟩<;>rfl
end
end Go.VK
