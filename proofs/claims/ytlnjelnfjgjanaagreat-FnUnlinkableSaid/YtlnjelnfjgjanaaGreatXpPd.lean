import Derived.Test.YtlnjelnfjgjanaaGreatXpPb
import Derived.Test.YtlnjelnfjgjanaaGreatXpM
/- Printed by wip/tools: models, walks, proofs. -/
set_option linter.unusedVariables false
set_option linter.unusedSimpArgs false
set_option maxRecDepth 100000
set_option maxHeartbeats 4000000
namespace Go.VK
open Go.RowKit Go.Proofs
noncomputable section
open EV (bT)
theorem aGo (a:D.Entry)(s h:Int):Jz a s h=some (rV a s h):=by
 unfold Jz rV
 cases decide (a.Site<s)<;>cases(a.Site==s)<;>rfl
theorem bBk {l:List D.Entry}{i:Nat}(hi:i<l.length)(hl:l.length≤34359738368){q:D.Entry→Bool}(hq:∀x,q x=fI x l[i]):
  (bif (!bF l[i].Site (0:Int) (2147483646:Int)) then(some (true)) else(bif (!bF l[i].Handle (0:Int) (1000000:Int)) then(some (true)) else(bif (!bF l[i].Version (1:Int) (1000000:Int)) then(some (true)) else(bif (decide ((i:Int)>(0:Int))) then(bd (bA l (IntKind.i64.wrap ((i:Int)-(1:Int)))) fun(z4:(D.Entry))=>some (!q z4)) else(some (false))))))=some (aWk l i l[i]):=by
 unfold aWk
 cases bF l[i].Site 0 2147483646 with
 |false=>rfl
 |true=>
  cases bF l[i].Handle 0 1000000 with
  |false=>rfl
  |true=>
   cases bF l[i].Version 1 1000000 with
   |false=>rfl
   |true=>
    by_cases h0:(i:Int)>0
    ·rw[decide_eq_true h0,aG (by omega) (by omega)]
     have hat:bA l ((i:Int)-1)=some l[i-1]:=by
      rw[show(i:Int)-1=((i-1:Nat):Int) by omega];exact aM (by omega)
     have hg:l.getD (i-1) default=l[i-1]:=by rw[List.getD,List.getElem?_eq_getElem (by omega),Option.getD_some]
     simp only[hat,bd_s,hq,hg,Bool.not_true,cond_false,cond_true,Bool.false_or,Bool.true_and]
    ·rw[decide_eq_false h0];rfl
theorem aCd (b:D.aAG)(h:b.sz≤34359738368):Ff b=some (aT b):=by
 simp only[D.aAG.sz] at h
 unfold Ff aT
 rw[kU (l:=b.Entries) (aWk b.Entries) (.inl false) (.inr ()) (by omega) (fun rec i hi=>by
  simp only[dQ hi,cond_true,aM hi,bd_s]
  rw[bBk hi h (q:=fun x=>rV x b.Entries[i].Site b.Entries[i].Handle) (fun x=>rfl)]
  rfl) (fun rec=>by simp only[dS,cond_false])]
 cases gB (aWk b.Entries) 0 b.Entries with
 |true=>simp[nx]
 |false=>simp[nx]
theorem R8 (b:D.aAG)(s h:Int)(hz:b.sz≤34359738368):Bh b s h=some (aL b s h):=by
 simp only[D.aAG.sz] at hz
 unfold Bh aL
 exact Xw (l:=b.Entries) (fun(e:D.Entry)=>e.Site==s&&e.Handle==h) (by omega) (fun rec i hi=>by
  simp only[dQ hi,cond_true,aM hi,bd_s]
  cases(b.Entries[i].Site==s)<;>rfl) (fun rec=>by simp only[dS,cond_false])
theorem aGp (b:D.aAG)(h:b.sz≤34359738368):Jw b=some (b):=by
 simp only[D.aAG.sz] at h
 unfold Jw
 rw[aB (by unfold aS;simp only[List.length_nil];omega)];rfl
theorem aU6 (p:D.Entry→Bool):∀(l:List D.Entry) (i:Nat),i≤(l.takeWhile p).length→(∃hi:i<l.length,p l[i]=true∧i<(l.takeWhile p).length)∨(i=(l.takeWhile p).length∧∀hi:i<l.length,p l[i]=false)
 |[],i,h=> .inr ⟨by simpa using h,fun hi=>by simp at hi⟩
 |x::l,i,h=>by
  rw[List.takeWhile_cons] at h ⊢
  cases hp:p x with
  |false=>
   rw[hp] at h
   simp at h
   subst h
   exact .inr ⟨by simp,fun _=>hp⟩
  |true=>
   rw[hp] at h
   simp only[if_true,List.length_cons] at h ⊢
   cases i with
   |zero=>exact .inl ⟨by simp,hp,by omega⟩
   |succ i=>
    rcases aU6 p l i (by omega) with⟨h1,h2,h3⟩|⟨h1,h2⟩
    ·exact .inl ⟨by simpa using h1,h2,by omega⟩
    ·exact .inr ⟨by omega,fun hi=>h2 (by simpa using hi)⟩
theorem aU7 (p:D.Entry→Bool):∀l:List D.Entry,l.take (l.takeWhile p).length=l.takeWhile p
 |[]=>rfl
 |x::l=>by
  rw[List.takeWhile_cons]
  cases p x with
  |false=>rfl
  |true=>simp only[if_true,List.length_cons,List.take_succ_cons];rw[aU7 p l]
theorem aU8 (p:D.Entry→Bool):∀l:List D.Entry,l.drop (l.takeWhile p).length=l.dropWhile p
 |[]=>rfl
 |x::l=>by
  rw[List.takeWhile_cons,List.dropWhile_cons]
  cases p x with
  |false=>rfl
  |true=>simp only[if_true,List.length_cons,List.drop_succ_cons];rw[aU8 p l]
theorem aJk (b:D.aAG)(x:D.Entry)(h:b.sz≤34359738360):Ru b x=some (Ec b x):=by
 have h':=h
 simp only[D.aAG.sz] at h
 unfold Ru Ec
 rw[aB (by omega),bd_s,aB (by omega),bd_s]
 by_cases hf:aL b x.Site x.Handle≥0
 ·rw[decide_eq_true hf,cond_true,cond_true]
  have:=aEa (show 0≤gP (fun e=>e.Site==x.Site&&e.Handle==x.Handle) 0 b.Entries from hf)
  have hlt:(aL b x.Site x.Handle).toNat<b.Entries.length:=by unfold aL;omega
  rw[mP hf hlt];rfl
 ·rw[decide_eq_false hf,cond_false,cond_false]
  have htl:(b.Entries.takeWhile fun e=>rV e x.Site x.Handle).length≤b.Entries.length:=(List.takeWhile_sublist _).length_le
  rw[Om (fun i s=>i≤(b.Entries.takeWhile fun e=>rV e x.Site x.Handle).length∧s=(i:Int)) b.Entries.length (some ((b.Entries.takeWhile fun e=>rV e x.Site x.Handle).length:Int)) (s:=(0:Int)) (by omega) ⟨by omega,rfl⟩ (fun i s rec hi hv=>by
   obtain⟨h1,rfl⟩:=hv
   rcases aU6 _ _ i h1 with⟨g1,g2,g3⟩|⟨g1,g2⟩
   ·refine .inl ⟨_,⟨by omega,rfl⟩,?_⟩
    simp only[dQ hi,cond_true,aM hi,bd_s,g2]
    rw[aG (by omega) (by omega)];rfl
   ·refine .inr ?_
    simp only[dQ hi,cond_true,aM hi,bd_s,g2 hi,cond_false]
    rw[←g1]) (fun s rec hv=>by
   obtain⟨h1,rfl⟩:=hv
   have e:b.Entries.length=(b.Entries.takeWhile fun e=>rV e x.Site x.Handle).length:=by omega
   simp only[dS,cond_false,bd_s]
   rw[←e]),bd_s]
  rw[aB ⟨by omega,by simpa using htl⟩,aB ⟨by omega,by simpa using htl⟩,aB (by unfold aS;simp;omega),aB (by unfold aS;simp;omega),aB (by unfold aS;simp;omega)]
  rw[Int.toNat_natCast,List.nil_append]
  rw[aU7,aU8]
theorem aXp {l:List D.Entry}{k:Int}(h0:0≤k)(h1:k.toNat<l.length)(x:D.Entry):(bd (bA l k) fun(z9:D.Entry)=>bif (decide (x.Version>z9.Version)) then(some (true)) else(bd (bA l k) fun(z10:D.Entry)=>bif (x.Version==z10.Version) then(some (x.Deleted)) else(some (false))))=some (zP x (l.getD k.toNat default)):=by
 rw[mP h0 h1,List.getD,List.getElem?_eq_getElem h1,Option.getD_some]
 simp only[bd_s]
 unfold zP
 cases decide (x.Version>l[k.toNat].Version)<;>cases(x.Version==l[k.toNat].Version)<;>rfl
theorem Oz (a b:D.aAG)(h:a.sz≤34359738368∧b.sz≤34359738368):tZ a b=some (nZ a b):=by
 unfold tZ nZ
 rw[aB h.1,bd_s]
 cases ha:aT a with
 |false=>rw[aB h.1];rfl
 |true=>
  rw[aB h.2]
  cases hb:aT b with
  |false=>rw[aB h.1];rfl
  |true=>
   obtain⟨la,sa⟩:=bAa ha
   obtain⟨lb,sb⟩:=bAa hb
   rw[aB h.1]
   simp only[Bool.not_true,cond_false,cond_true,bd_s,Bool.and_self]
   rw[aLz (l:=b.Entries) (s0:=a.Entries) (fun o x=>dN o [x]) (fun i o=>srt o∧o.length≤20+i) (fun o=>some o) (by omega) ⟨sa,by omega⟩ (fun i o hi hv=>by
     have:=Ao _ o [b.Entries[i]] (Nat.le_refl _)
     exact⟨aUn hv.1,by simp only[List.length_singleton] at this;omega⟩) (fun rec i o hi hv=>by
     obtain⟨hs,hl⟩:=hv
     simp only[dQ hi,cond_true,aM hi,bd_s]
     rw[aB (by simp only[D.aAG.sz];omega),bd_s,←aZ9 hs]
     have hk:(bif decide (aL ⟨o⟩ b.Entries[i].Site b.Entries[i].Handle<0) then some true else bd (bA o (aL ⟨o⟩ b.Entries[i].Site b.Entries[i].Handle)) fun(z9:D.Entry)=>bif (decide (b.Entries[i].Version>z9.Version)) then(some (true)) else(bd (bA o (aL ⟨o⟩ b.Entries[i].Site b.Entries[i].Handle)) fun(z10:D.Entry)=>bif (b.Entries[i].Version==z10.Version) then(some (b.Entries[i].Deleted)) else(some (false))))=some (decide (aL ⟨o⟩ b.Entries[i].Site b.Entries[i].Handle<0)||zP b.Entries[i] (o.getD (aL ⟨o⟩ b.Entries[i].Site b.Entries[i].Handle).toNat default)):=by
      by_cases hf:aL ⟨o⟩ b.Entries[i].Site b.Entries[i].Handle<0
      ·rw[decide_eq_true hf];rfl
      ·rw[decide_eq_false hf,cond_false]
       have:=aEa (show 0≤gP (fun(e:D.Entry)=>e.Site==b.Entries[i].Site&&e.Handle==b.Entries[i].Handle) 0 o from by unfold aL at hf;simp only at hf;omega)
       rw[aXp (by omega) (by unfold aL;simp only;omega)];rfl
     rw[hk,bd_s]
     cases(decide (aL ⟨o⟩ b.Entries[i].Site b.Entries[i].Handle<0)||zP b.Entries[i] (o.getD (aL ⟨o⟩ b.Entries[i].Site b.Entries[i].Handle).toNat default)) with
     |false=>rfl
     |true=>rw[cond_true,cond_true,aB (by simp only[D.aAG.sz];omega)];rfl) (fun rec o _=>by simp only[dS,cond_false])]
   rw[aFe _ _ sb,bd_s]
   have hm:=Ao _ a.Entries b.Entries (Nat.le_refl _)
   rw[aB (by simp only[D.aAG.sz];omega),bd_s]
   cases aT ⟨dN a.Entries b.Entries⟩<;>rfl
theorem bBl {w:D.World}(h:w.sz≤34359738368):WOk w:=by
 simp only[D.World.sz] at h
 unfold WOk;omega
end
end Go.VK
