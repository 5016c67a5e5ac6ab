import Derived.Test.YtinkjfapmhcgmaaGreatDoorXjPa
import Derived.Test.YtinkjfapmhcgmaaGreatDoorXjQ
/- Printed by wip/tools: models, walks, proofs. -/
set_option linter.unusedVariables false
set_option linter.unusedSimpArgs false
set_option maxRecDepth 100000
set_option maxHeartbeats 4000000
namespace Go.VK
open Go.RowKit Go.Proofs
noncomputable section
open EV (bU)
theorem aO0 (a:D.Entry)(s h:Int):Pz a s h=some (iJ a s h):=by
 unfold Pz iJ
 cases decide (a.Site<s)<;>cases(a.Site==s)<;>rfl
theorem C8 (a b:D.Entry):wO a b=some (dX a b):=by
 unfold wO dX
 cases decide (a.Site<b.Site)<;>cases(a.Site==b.Site)<;>rfl
theorem bAk {l:List D.Entry}{i:Nat}(hi:i<l.length)(hl:l.length≤34359738368){q:D.Entry→Bool}(hq:∀x,q x=dX x l[i]):
  (bif (!dG l[i].Site (0:Int) (2147483646:Int)) then(some (true)) else(bif (!dG l[i].Handle (0:Int) (1000000:Int)) then(some (true)) else(bif (!dG l[i].Version (1:Int) (1000000:Int)) then(some (true)) else(bif (decide ((i:Int)>(0:Int))) then(bd (aL l (IntKind.i64.wrap ((i:Int)-(1:Int)))) fun(z4:(D.Entry))=>some (!q z4)) else(some (false))))))=some (W9 l i l[i]):=by
 unfold W9
 cases dG l[i].Site 0 2147483646 with
 |false=>rfl
 |true=>
  cases dG l[i].Handle 0 1000000 with
  |false=>rfl
  |true=>
   cases dG l[i].Version 1 1000000 with
   |false=>rfl
   |true=>
    by_cases h0:(i:Int)>0
    ·rw[decide_eq_true h0,aP (by omega) (by omega)]
     have hat:aL l ((i:Int)-1)=some l[i-1]:=by
      rw[show(i:Int)-1=((i-1:Nat):Int) by omega];exact aF (by omega)
     have hg:l.getD (i-1) default=l[i-1]:=by rw[List.getD,List.getElem?_eq_getElem (by omega),Option.getD_some]
     simp only[hat,bd_s,hq,hg,Bool.not_true,cond_false,cond_true,Bool.false_or,Bool.true_and]
    ·rw[decide_eq_false h0];rfl
theorem aJs (b:D.aAD)(h:b.sz≤34359738368):Je b=some (aJ b):=by
 simp only[D.aAD.sz] at h
 unfold Je aJ
 rw[iG (l:=b.Entries) (W9 b.Entries) (.inl false) (.inr ()) (by omega) (fun rec i hi=>by
  simp only[bE hi,cond_true,aF hi,bd_s]
  rw[bAk hi h (q:=fun x=>iJ x b.Entries[i].Site b.Entries[i].Handle) (fun x=>rfl)]
  rfl) (fun rec=>by simp only[bF,cond_false])]
 cases kS (W9 b.Entries) 0 b.Entries with
 |true=>simp[nx]
 |false=>simp[nx]
theorem aJt (b:D.aAD)(h:b.sz≤34359738368):Jn b=some (aJ b):=by
 simp only[D.aAD.sz] at h
 unfold Jn aJ
 by_cases h20:(b.Entries.length:Int)>20
 ·rw[decide_eq_true h20,show decide ((b.Entries.length:Int)≤20)=false from decide_eq_false (by omega)];rfl
 ·rw[decide_eq_false h20,show decide ((b.Entries.length:Int)≤20)=true from decide_eq_true (by omega),cond_false]
  rw[iG (l:=b.Entries) (W9 b.Entries) (.inl false) (.inr ()) (by omega) (fun rec i hi=>by
   simp only[bE hi,cond_true,aF hi,bd_s]
   rw[bAk hi h (q:=fun x=>dX x b.Entries[i]) (fun x=>rfl)]
   rfl) (fun rec=>by simp only[bF,cond_false])]
  cases kS (W9 b.Entries) 0 b.Entries<;>rfl
theorem aEs (b:D.aAD)(s h:Int)(hz:b.sz≤34359738368):Bw b s h=some (aH b s h):=by
 simp only[D.aAD.sz] at hz
 unfold Bw aH
 exact Av (l:=b.Entries) (fun(e:D.Entry)=>e.Site==s&&e.Handle==h) (by omega) (fun rec i hi=>by
  simp only[bE hi,cond_true,aF hi,bd_s]
  cases(b.Entries[i].Site==s)<;>rfl) (fun rec=>by simp only[bF,cond_false])
theorem aO1 (b:D.aAD)(h:b.sz≤34359738368):Pd b=some (b):=by
 simp only[D.aAD.sz] at h
 unfold Pd
 rw[aC (by unfold bJ;simp only[List.length_nil];omega)];rfl
theorem aAa (b:D.aAD)(h:b.sz≤34359738368):yU b=some (b):=by
 simp only[D.aAD.sz] at h
 unfold yU
 rw[aC (by unfold bJ;simp only[List.length_nil];omega)];rfl
theorem aMg (p:D.Entry→Bool):∀(l:List D.Entry) (i:Nat),i≤(l.takeWhile p).length→(∃hi:i<l.length,p l[i]=true∧i<(l.takeWhile p).length)∨(i=(l.takeWhile p).length∧∀hi:i<l.length,p l[i]=false)
 |[],i,h=> .inr ⟨by simpa using h,fun hi=>by simp at hi⟩
 |x::l,i,h=>by
  rw[List.takeWhile_cons] at h ⊢
  cases hp:p x with
  |false=>
   rw[hp] at h
   simp at h
   subst h
   exact .inr ⟨by simp,fun _=>hp⟩
  |true=>
   rw[hp] at h
   simp only[if_true,List.length_cons] at h ⊢
   cases i with
   |zero=>exact .inl ⟨by simp,hp,by omega⟩
   |succ i=>
    rcases aMg p l i (by omega) with⟨h1,h2,h3⟩|⟨h1,h2⟩
    ·exact .inl ⟨by simpa using h1,h2,by omega⟩
    ·exact .inr ⟨by omega,fun hi=>h2 (by simpa using hi)⟩
theorem bDk (p:D.Entry→Bool):∀l:List D.Entry,l.take (l.takeWhile p).length=l.takeWhile p
 |[]=>rfl
 |x::l=>by
  rw[List.takeWhile_cons]
  cases p x with
  |false=>rfl
  |true=>simp only[if_true,List.length_cons,List.take_succ_cons];rw[bDk p l]
theorem bDl (p:D.Entry→Bool):∀l:List D.Entry,l.drop (l.takeWhile p).length=l.dropWhile p
 |[]=>rfl
 |x::l=>by
  rw[List.takeWhile_cons,List.dropWhile_cons]
  cases p x with
  |false=>rfl
  |true=>simp only[if_true,List.length_cons,List.drop_succ_cons];rw[bDl p l]
theorem aTi (b:D.aAD)(x:D.Entry)(h:b.sz≤34359738360):Yp b x=some (nV b x):=by
 have h':=h
 simp only[D.aAD.sz] at h
 unfold Yp nV
 rw[aC (by omega),bd_s,aC (by omega),bd_s]
 by_cases hf:aH b x.Site x.Handle≥0
 ·rw[decide_eq_true hf,cond_true,cond_true]
  have:=aMq (show 0≤jW (fun e=>e.Site==x.Site&&e.Handle==x.Handle) 0 b.Entries from hf)
  have hlt:(aH b x.Site x.Handle).toNat<b.Entries.length:=by unfold aH;omega
  rw[nK hf hlt];rfl
 ·rw[decide_eq_false hf,cond_false,cond_false]
  have htl:(b.Entries.takeWhile fun e=>iJ e x.Site x.Handle).length≤b.Entries.length:=(List.takeWhile_sublist _).length_le
  rw[Zt (fun i s=>i≤(b.Entries.takeWhile fun e=>iJ e x.Site x.Handle).length∧s=(i:Int)) b.Entries.length (some ((b.Entries.takeWhile fun e=>iJ e x.Site x.Handle).length:Int)) (s:=(0:Int)) (by omega) ⟨by omega,rfl⟩ (fun i s rec hi hv=>by
   obtain⟨h1,rfl⟩:=hv
   rcases aMg _ _ i h1 with⟨g1,g2,g3⟩|⟨g1,g2⟩
   ·refine .inl ⟨_,⟨by omega,rfl⟩,?_⟩
    simp only[bE hi,cond_true,aF hi,bd_s,g2]
    rw[aP (by omega) (by omega)];rfl
   ·refine .inr ?_
    simp only[bE hi,cond_true,aF hi,bd_s,g2 hi,cond_false]
    rw[←g1]) (fun s rec hv=>by
   obtain⟨h1,rfl⟩:=hv
   have e:b.Entries.length=(b.Entries.takeWhile fun e=>iJ e x.Site x.Handle).length:=by omega
   simp only[bF,cond_false,bd_s]
   rw[←e]),bd_s]
  rw[aC ⟨by omega,by simpa using htl⟩,aC ⟨by omega,by simpa using htl⟩,aC (by unfold bJ;simp;omega),aC (by unfold bJ;simp;omega),aC (by unfold bJ;simp;omega)]
  rw[Int.toNat_natCast,List.nil_append]
  rw[bDk,bDl]
theorem bFb {l:List D.Entry}{k:Int}(h0:0≤k)(h1:k.toNat<l.length)(x:D.Entry):(bd (aL l k) fun(z9:D.Entry)=>bif (decide (x.Version>z9.Version)) then(some (true)) else(bd (aL l k) fun(z10:D.Entry)=>bif (x.Version==z10.Version) then(some (x.Deleted)) else(some (false))))=some (vO x (l.getD k.toNat default)):=by
 rw[nK h0 h1,List.getD,List.getElem?_eq_getElem h1,Option.getD_some]
 simp only[bd_s]
 unfold vO
 cases decide (x.Version>l[k.toNat].Version)<;>cases(x.Version==l[k.toNat].Version)<;>rfl
theorem Uy (a b:D.aAD)(h:a.sz≤34359738368∧b.sz≤34359738368):tX a b=some (lH a b):=by
 unfold tX lH
 rw[aC h.1,bd_s]
 cases ha:aJ a with
 |false=>rw[aC h.1];rfl
 |true=>
  rw[aC h.2]
  cases hb:aJ b with
  |false=>rw[aC h.1];rfl
  |true=>
   obtain⟨la,sa⟩:=aXg ha
   obtain⟨lb,sb⟩:=aXg hb
   rw[aC h.1]
   simp only[Bool.not_true,cond_false,cond_true,bd_s,Bool.and_self]
   rw[aVp (l:=b.Entries) (s0:=a.Entries) (fun o x=>dQ o [x]) (fun i o=>srt o∧o.length≤20+i) (fun o=>some o) (by omega) ⟨sa,by omega⟩ (fun i o hi hv=>by
     have:=uX _ o [b.Entries[i]] (Nat.le_refl _)
     exact⟨bC8 hv.1,by simp only[List.length_singleton] at this;omega⟩) (fun rec i o hi hv=>by
     obtain⟨hs,hl⟩:=hv
     simp only[bE hi,cond_true,aF hi,bd_s]
     rw[aC (by simp only[D.aAD.sz];omega),bd_s,←bG6 hs]
     have hk:(bif decide (aH ⟨o⟩ b.Entries[i].Site b.Entries[i].Handle<0) then some true else bd (aL o (aH ⟨o⟩ b.Entries[i].Site b.Entries[i].Handle)) fun(z9:D.Entry)=>bif (decide (b.Entries[i].Version>z9.Version)) then(some (true)) else(bd (aL o (aH ⟨o⟩ b.Entries[i].Site b.Entries[i].Handle)) fun(z10:D.Entry)=>bif (b.Entries[i].Version==z10.Version) then(some (b.Entries[i].Deleted)) else(some (false))))=some (decide (aH ⟨o⟩ b.Entries[i].Site b.Entries[i].Handle<0)||vO b.Entries[i] (o.getD (aH ⟨o⟩ b.Entries[i].Site b.Entries[i].Handle).toNat default)):=by
      by_cases hf:aH ⟨o⟩ b.Entries[i].Site b.Entries[i].Handle<0
      ·rw[decide_eq_true hf];rfl
      ·rw[decide_eq_false hf,cond_false]
       have:=aMq (show 0≤jW (fun(e:D.Entry)=>e.Site==b.Entries[i].Site&&e.Handle==b.Entries[i].Handle) 0 o from by unfold aH at hf;simp only at hf;omega)
       rw[bFb (by omega) (by unfold aH;simp only;omega)];rfl
     rw[hk,bd_s]
     cases(decide (aH ⟨o⟩ b.Entries[i].Site b.Entries[i].Handle<0)||vO b.Entries[i] (o.getD (aH ⟨o⟩ b.Entries[i].Site b.Entries[i].Handle).toNat default)) with
     |false=>rfl
     |true=>rw[cond_true,cond_true,aC (by simp only[D.aAD.sz];omega)];rfl) (fun rec o _=>by simp only[bF,cond_false])]
   rw[aNp _ _ sb,bd_s]
   have hm:=uX _ a.Entries b.Entries (Nat.le_refl _)
   rw[aC (by simp only[D.aAD.sz];omega),bd_s]
   cases aJ ⟨dQ a.Entries b.Entries⟩<;>rfl
theorem drop_at {l:List D.Entry}{i:Nat}(h:i<l.length):l.drop i=l[i]::l.drop (i+1):=List.drop_eq_getElem_cons h
theorem bB7 (e f:D.Entry){X:Int×Int×Int×Bool→Option (List D.Entry)}:(bd (bd (bif (decide (f.Version>e.Version)) then(some (true)) else(bif (f.Version==e.Version) then(some (f.Deleted)) else(some (false)))) fun(z10:Bool)=>bif z10 then(some (f.Site,f.Handle,f.Version,f.Deleted)) else(some (e.Site,e.Handle,e.Version,e.Deleted))) X)=X ((tC e f).Site,(tC e f).Handle,(tC e f).Version,(tC e f).Deleted):=by
 unfold tC vO
 cases decide (f.Version>e.Version)<;>cases(f.Version==e.Version)<;>cases hd:f.Deleted<;>simp[bd,hd]
theorem Uz (a b:D.aAD)(h:a.sz≤34359738368∧b.sz≤34359738368):uD a b=some (lH a b):=by
 unfold uD lH
 rw[aC h.1,bd_s]
 cases ha:aJ a with
 |false=>rw[aC h.1];rfl
 |true=>
  rw[aC h.2]
  cases hb:aJ b with
  |false=>rw[aC h.1];rfl
  |true=>
   obtain⟨la,sa⟩:=aXg ha
   obtain⟨lb,sb⟩:=aXg hb
   simp only[Bool.not_true,cond_false,cond_true,bd_s,Bool.and_self]
   have hm:=uX _ a.Entries b.Entries (Nat.le_refl _)
   rw[Zt (fun n s=>∃(i k:Nat) (o:List D.Entry),s=((i:Int),(k:Int),o)∧i≤a.Entries.length∧k≤b.Entries.length∧n≤i+k∧o++dQ (a.Entries.drop i) (b.Entries.drop k)=dQ a.Entries b.Entries) (a.Entries.length+b.Entries.length) (some (dQ a.Entries b.Entries)) (s:=((0:Int),(0:Int),([]:List D.Entry))) (by omega) ⟨0,0,[],rfl,by omega,by omega,by omega,rfl⟩ (fun n s rec hn hv=>by
     obtain⟨i,k,o,rfl,hi,hk,hik,ho⟩:=hv
     have hol:o.length≤40:=by have:=congrArg List.length ho;rw[List.length_append] at this;omega
     have hap:∀x:D.Entry,bJ o [x]:=fun x=>by unfold bJ;simp only[List.length_singleton];omega
     have wi:IntKind.i64.wrap ((i:Int)+1)=((i+1:Nat):Int):=by rw[aP (by omega) (by omega)];rfl
     have wk:IntKind.i64.wrap ((k:Int)+1)=((k+1:Nat):Int):=by rw[aP (by omega) (by omega)];rfl
     rcases Nat.lt_or_ge i a.Entries.length with hi'|hi'
     ·have ne1:((i:Int)==(a.Entries.length:Int))=false:=by simp;omega
      rw[drop_at hi'] at ho
      rcases Nat.lt_or_ge k b.Entries.length with hk'|hk'
      ·have ne2:((k:Int)==(b.Entries.length:Int))=false:=by simp;omega
       rw[drop_at hk',Zz] at ho
       simp only[bE hi',bE hk',cond_true,bd_s,ne2,cond_false,aF hi',aF hk',ne1,aC (hap _),wi,wk,bB7]
       cases h1:dX a.Entries[i] b.Entries[k] with
       |true=>
        rw[h1,cond_true,←drop_at hk'] at ho
        exact .inl ⟨_,⟨i+1,k,o++[a.Entries[i]],rfl,by omega,hk,by omega,by rw[←ho];simp⟩,rfl⟩
       |false=>
        cases h2:dX b.Entries[k] a.Entries[i] with
        |true=>
         rw[h1,cond_false,h2,cond_true,←drop_at hi'] at ho
         exact .inl ⟨_,⟨i,k+1,o++[b.Entries[k]],rfl,hi,by omega,by omega,by rw[←ho];simp⟩,rfl⟩
        |false=>
         rw[h1,cond_false,h2,cond_false] at ho
         exact .inl ⟨_,⟨i+1,k+1,o++[tC a.Entries[i] b.Entries[k]],rfl,by omega,by omega,by omega,by rw[←ho];simp⟩,rfl⟩
      ·have e:k=b.Entries.length:=by omega
       subst e
       rw[List.drop_length,fA] at ho
       simp only[bE hi',cond_true,bd_s,beq_self_eq_true,aF hi',aC (hap _),wi]
       exact .inl ⟨_,⟨i+1,_,o++[a.Entries[i]],rfl,by omega,Nat.le_refl _,by omega,by rw[List.drop_length,fA,←ho];simp⟩,rfl⟩
     ·have e:i=a.Entries.length:=by omega
      subst e
      rw[List.drop_length,kE] at ho
      rcases Nat.lt_or_ge k b.Entries.length with hk'|hk'
      ·have ne2:((k:Int)==(b.Entries.length:Int))=false:=by simp;omega
       simp only[bF,cond_false,bE hk',bd_s,cond_true,ne2,beq_self_eq_true,aF hk',aC (hap _),wk]
       exact .inl ⟨_,⟨_,k+1,o++[b.Entries[k]],rfl,Nat.le_refl _,by omega,by omega,by rw[List.drop_length,kE,←ho,drop_at hk'];simp⟩,rfl⟩
      ·have e2:k=b.Entries.length:=by omega
       subst e2
       rw[List.drop_length,List.append_nil] at ho
       refine .inr ?_
       simp only[bF,cond_false,bd_s]
       rw[ho]) (fun s rec hv=>by
     obtain⟨i,k,o,rfl,hi,hk,hik,ho⟩:=hv
     have e1:i=a.Entries.length:=by omega
     have e2:k=b.Entries.length:=by omega
     subst e1;subst e2
     rw[List.drop_length,List.drop_length,fA,List.append_nil] at ho
     simp only[bF,cond_false,bd_s]
     rw[ho])]
   rw[bd_s,aC (by simp only[D.aAD.sz];omega),bd_s,aC h.1]
   cases aJ ⟨dQ a.Entries b.Entries⟩<;>rfl
end
end Go.VK
