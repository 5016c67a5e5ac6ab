import Derived.Test.YtefkjglmpmakcaaGreatDoorXlPa
import Derived.Test.YtefkjglmpmakcaaGreatDoorXlQ
/- Printed by wip/tools: models, walks, proofs. -/
set_option linter.unusedVariables false
set_option linter.unusedSimpArgs false
set_option maxRecDepth 100000
set_option maxHeartbeats 4000000
namespace Go.VK
open Go.RowKit Go.Proofs
noncomputable section
open EV (bS)
theorem aL8 (a:D.Entry)(s h:Int):Ma a s h=some (iE a s h):=by
 unfold Ma iE
 cases decide (a.Site<s)<;>cases(a.Site==s)<;>rfl
theorem Wi (a b:D.Entry):vT a b=some (eD a b):=by
 unfold vT eD
 cases decide (a.Site<b.Site)<;>cases(a.Site==b.Site)<;>rfl
theorem aV9 {l:List D.Entry}{i:Nat}(hi:i<l.length)(hl:l.length≤34359738368){q:D.Entry→Bool}(hq:∀x,q x=eD x l[i]):
  (bif (!cK l[i].Site (0:Int) (2147483646:Int)) then(some (true)) else(bif (!cK l[i].Handle (0:Int) (1000000:Int)) then(some (true)) else(bif (!cK l[i].Version (1:Int) (1000000:Int)) then(some (true)) else(bif (decide ((i:Int)>(0:Int))) then(bd (aT l (IntKind.i64.wrap ((i:Int)-(1:Int)))) fun(z4:(D.Entry))=>some (!q z4)) else(some (false))))))=some (J5 l i l[i]):=by
 unfold J5
 cases cK l[i].Site 0 2147483646 with
 |false=>rfl
 |true=>
  cases cK l[i].Handle 0 1000000 with
  |false=>rfl
  |true=>
   cases cK l[i].Version 1 1000000 with
   |false=>rfl
   |true=>
    by_cases h0:(i:Int)>0
    ·rw[decide_eq_true h0,aK (by omega) (by omega)]
     have hat:aT l ((i:Int)-1)=some l[i-1]:=by
      rw[show(i:Int)-1=((i-1:Nat):Int) by omega];exact aF (by omega)
     have hg:l.getD (i-1) default=l[i-1]:=by rw[List.getD,List.getElem?_eq_getElem (by omega),Option.getD_some]
     simp only[hat,bd_s,hq,hg,Bool.not_true,cond_false,cond_true,Bool.false_or,Bool.true_and]
    ·rw[decide_eq_false h0];rfl
theorem aHa (b:D.aAC)(h:b.sz≤34359738368):Gj b=some (aI b):=by
 simp only[D.aAC.sz] at h
 unfold Gj aI
 rw[kW (l:=b.Entries) (J5 b.Entries) (.inl false) (.inr ()) (by omega) (fun rec i hi=>by
  simp only[bJ hi,cond_true,aF hi,bd_s]
  rw[aV9 hi h (q:=fun x=>iE x b.Entries[i].Site b.Entries[i].Handle) (fun x=>rfl)]
  rfl) (fun rec=>by simp only[bM,cond_false])]
 cases mK (J5 b.Entries) 0 b.Entries with
 |true=>simp[nx]
 |false=>simp[nx]
theorem aHb (b:D.aAC)(h:b.sz≤34359738368):Gw b=some (aI b):=by
 simp only[D.aAC.sz] at h
 unfold Gw aI
 by_cases h20:(b.Entries.length:Int)>20
 ·rw[decide_eq_true h20,show decide ((b.Entries.length:Int)≤20)=false from decide_eq_false (by omega)];rfl
 ·rw[decide_eq_false h20,show decide ((b.Entries.length:Int)≤20)=true from decide_eq_true (by omega),cond_false]
  rw[kW (l:=b.Entries) (J5 b.Entries) (.inl false) (.inr ()) (by omega) (fun rec i hi=>by
   simp only[bJ hi,cond_true,aF hi,bd_s]
   rw[aV9 hi h (q:=fun x=>eD x b.Entries[i]) (fun x=>rfl)]
   rfl) (fun rec=>by simp only[bM,cond_false])]
  cases mK (J5 b.Entries) 0 b.Entries<;>rfl
theorem aCi (b:D.aAC)(s h:Int)(hz:b.sz≤34359738368):Aw b s h=some (aH b s h):=by
 simp only[D.aAC.sz] at hz
 unfold Aw aH
 exact J2 (l:=b.Entries) (fun(e:D.Entry)=>e.Site==s&&e.Handle==h) (by omega) (fun rec i hi=>by
  simp only[bJ hi,cond_true,aF hi,bd_s]
  cases(b.Entries[i].Site==s)<;>rfl) (fun rec=>by simp only[bM,cond_false])
theorem aL9 (b:D.aAC)(h:b.sz≤34359738368):Lv b=some (b):=by
 simp only[D.aAC.sz] at h
 unfold Lv
 rw[aB (by unfold bD;simp only[List.length_nil];omega)];rfl
theorem M6 (b:D.aAC)(h:b.sz≤34359738368):yE b=some (b):=by
 simp only[D.aAC.sz] at h
 unfold yE
 rw[aB (by unfold bD;simp only[List.length_nil];omega)];rfl
theorem aJw (p:D.Entry→Bool):∀(l:List D.Entry) (i:Nat),i≤(l.takeWhile p).length→(∃hi:i<l.length,p l[i]=true∧i<(l.takeWhile p).length)∨(i=(l.takeWhile p).length∧∀hi:i<l.length,p l[i]=false)
 |[],i,h=> .inr ⟨by simpa using h,fun hi=>by simp at hi⟩
 |x::l,i,h=>by
  rw[List.takeWhile_cons] at h ⊢
  cases hp:p x with
  |false=>
   rw[hp] at h
   simp at h
   subst h
   exact .inr ⟨by simp,fun _=>hp⟩
  |true=>
   rw[hp] at h
   simp only[if_true,List.length_cons] at h ⊢
   cases i with
   |zero=>exact .inl ⟨by simp,hp,by omega⟩
   |succ i=>
    rcases aJw p l i (by omega) with⟨h1,h2,h3⟩|⟨h1,h2⟩
    ·exact .inl ⟨by simpa using h1,h2,by omega⟩
    ·exact .inr ⟨by omega,fun hi=>h2 (by simpa using hi)⟩
theorem aZc (p:D.Entry→Bool):∀l:List D.Entry,l.take (l.takeWhile p).length=l.takeWhile p
 |[]=>rfl
 |x::l=>by
  rw[List.takeWhile_cons]
  cases p x with
  |false=>rfl
  |true=>simp only[if_true,List.length_cons,List.take_succ_cons];rw[aZc p l]
theorem aZd (p:D.Entry→Bool):∀l:List D.Entry,l.drop (l.takeWhile p).length=l.dropWhile p
 |[]=>rfl
 |x::l=>by
  rw[List.takeWhile_cons,List.dropWhile_cons]
  cases p x with
  |false=>rfl
  |true=>simp only[if_true,List.length_cons,List.drop_succ_cons];rw[aZd p l]
theorem aPn (b:D.aAC)(x:D.Entry)(h:b.sz≤34359738360):Tu b x=some (nN b x):=by
 have h':=h
 simp only[D.aAC.sz] at h
 unfold Tu nN
 rw[aB (by omega),bd_s,aB (by omega),bd_s]
 by_cases hf:aH b x.Site x.Handle≥0
 ·rw[decide_eq_true hf,cond_true,cond_true]
  have:=aJ5 (show 0≤kD (fun e=>e.Site==x.Site&&e.Handle==x.Handle) 0 b.Entries from hf)
  have hlt:(aH b x.Site x.Handle).toNat<b.Entries.length:=by unfold aH;omega
  rw[F8 hf hlt];rfl
 ·rw[decide_eq_false hf,cond_false,cond_false]
  have htl:(b.Entries.takeWhile fun e=>iE e x.Site x.Handle).length≤b.Entries.length:=(List.takeWhile_sublist _).length_le
  rw[aBa (fun i s=>i≤(b.Entries.takeWhile fun e=>iE e x.Site x.Handle).length∧s=(i:Int)) b.Entries.length (some ((b.Entries.takeWhile fun e=>iE e x.Site x.Handle).length:Int)) (s:=(0:Int)) (by omega) ⟨by omega,rfl⟩ (fun i s rec hi hv=>by
   obtain⟨h1,rfl⟩:=hv
   rcases aJw _ _ i h1 with⟨g1,g2,g3⟩|⟨g1,g2⟩
   ·refine .inl ⟨_,⟨by omega,rfl⟩,?_⟩
    simp only[bJ hi,cond_true,aF hi,bd_s,g2]
    rw[aK (by omega) (by omega)];rfl
   ·refine .inr ?_
    simp only[bJ hi,cond_true,aF hi,bd_s,g2 hi,cond_false]
    rw[←g1]) (fun s rec hv=>by
   obtain⟨h1,rfl⟩:=hv
   have e:b.Entries.length=(b.Entries.takeWhile fun e=>iE e x.Site x.Handle).length:=by omega
   simp only[bM,cond_false,bd_s]
   rw[←e]),bd_s]
  rw[aB ⟨by omega,by simpa using htl⟩,aB ⟨by omega,by simpa using htl⟩,aB (by unfold bD;simp;omega),aB (by unfold bD;simp;omega),aB (by unfold bD;simp;omega)]
  rw[Int.toNat_natCast,List.nil_append]
  rw[aZc,aZd]
theorem bA5 {l:List D.Entry}{k:Int}(h0:0≤k)(h1:k.toNat<l.length)(x:D.Entry):(bd (aT l k) fun(z9:D.Entry)=>bif (decide (x.Version>z9.Version)) then(some (true)) else(bd (aT l k) fun(z10:D.Entry)=>bif (x.Version==z10.Version) then(some (x.Deleted)) else(some (false))))=some (uQ x (l.getD k.toNat default)):=by
 rw[F8 h0 h1,List.getD,List.getElem?_eq_getElem h1,Option.getD_some]
 simp only[bd_s]
 unfold uQ
 cases decide (x.Version>l[k.toNat].Version)<;>cases(x.Version==l[k.toNat].Version)<;>rfl
theorem Qm (a b:D.aAC)(h:a.sz≤34359738368∧b.sz≤34359738368):sI a b=some (kX a b):=by
 unfold sI kX
 rw[aB h.1,bd_s]
 cases ha:aI a with
 |false=>rw[aB h.1];rfl
 |true=>
  rw[aB h.2]
  cases hb:aI b with
  |false=>rw[aB h.1];rfl
  |true=>
   obtain⟨la,sa⟩:=aS5 ha
   obtain⟨lb,sb⟩:=aS5 hb
   rw[aB h.1]
   simp only[Bool.not_true,cond_false,cond_true,bd_s,Bool.and_self]
   rw[aRj (l:=b.Entries) (s0:=a.Entries) (fun o x=>dU o [x]) (fun i o=>srt o∧o.length≤20+i) (fun o=>some o) (by omega) ⟨sa,by omega⟩ (fun i o hi hv=>by
     have:=tZ _ o [b.Entries[i]] (Nat.le_refl _)
     exact⟨aY2 hv.1,by simp only[List.length_singleton] at this;omega⟩) (fun rec i o hi hv=>by
     obtain⟨hs,hl⟩:=hv
     simp only[bJ hi,cond_true,aF hi,bd_s]
     rw[aB (by simp only[D.aAC.sz];omega),bd_s,←bC1 hs]
     have hk:(bif decide (aH ⟨o⟩ b.Entries[i].Site b.Entries[i].Handle<0) then some true else bd (aT o (aH ⟨o⟩ b.Entries[i].Site b.Entries[i].Handle)) fun(z9:D.Entry)=>bif (decide (b.Entries[i].Version>z9.Version)) then(some (true)) else(bd (aT o (aH ⟨o⟩ b.Entries[i].Site b.Entries[i].Handle)) fun(z10:D.Entry)=>bif (b.Entries[i].Version==z10.Version) then(some (b.Entries[i].Deleted)) else(some (false))))=some (decide (aH ⟨o⟩ b.Entries[i].Site b.Entries[i].Handle<0)||uQ b.Entries[i] (o.getD (aH ⟨o⟩ b.Entries[i].Site b.Entries[i].Handle).toNat default)):=by
      by_cases hf:aH ⟨o⟩ b.Entries[i].Site b.Entries[i].Handle<0
      ·rw[decide_eq_true hf];rfl
      ·rw[decide_eq_false hf,cond_false]
       have:=aJ5 (show 0≤kD (fun(e:D.Entry)=>e.Site==b.Entries[i].Site&&e.Handle==b.Entries[i].Handle) 0 o from by unfold aH at hf;simp only at hf;omega)
       rw[bA5 (by omega) (by unfold aH;simp only;omega)];rfl
     rw[hk,bd_s]
     cases(decide (aH ⟨o⟩ b.Entries[i].Site b.Entries[i].Handle<0)||uQ b.Entries[i] (o.getD (aH ⟨o⟩ b.Entries[i].Site b.Entries[i].Handle).toNat default)) with
     |false=>rfl
     |true=>rw[cond_true,cond_true,aB (by simp only[D.aAC.sz];omega)];rfl) (fun rec o _=>by simp only[bM,cond_false])]
   rw[aK4 _ _ sb,bd_s]
   have hm:=tZ _ a.Entries b.Entries (Nat.le_refl _)
   rw[aB (by simp only[D.aAC.sz];omega),bd_s]
   cases aI ⟨dU a.Entries b.Entries⟩<;>rfl
theorem drop_at {l:List D.Entry}{i:Nat}(h:i<l.length):l.drop i=l[i]::l.drop (i+1):=List.drop_eq_getElem_cons h
theorem aX1 (e f:D.Entry){X:Int×Int×Int×Bool→Option (List D.Entry)}:(bd (bd (bif (decide (f.Version>e.Version)) then(some (true)) else(bif (f.Version==e.Version) then(some (f.Deleted)) else(some (false)))) fun(z10:Bool)=>bif z10 then(some (f.Site,f.Handle,f.Version,f.Deleted)) else(some (e.Site,e.Handle,e.Version,e.Deleted))) X)=X ((rZ e f).Site,(rZ e f).Handle,(rZ e f).Version,(rZ e f).Deleted):=by
 unfold rZ uQ
 cases decide (f.Version>e.Version)<;>cases(f.Version==e.Version)<;>cases hd:f.Deleted<;>simp[bd,hd]
theorem Qn (a b:D.aAC)(h:a.sz≤34359738368∧b.sz≤34359738368):sP a b=some (kX a b):=by
 unfold sP kX
 rw[aB h.1,bd_s]
 cases ha:aI a with
 |false=>rw[aB h.1];rfl
 |true=>
  rw[aB h.2]
  cases hb:aI b with
  |false=>rw[aB h.1];rfl
  |true=>
   obtain⟨la,sa⟩:=aS5 ha
   obtain⟨lb,sb⟩:=aS5 hb
   simp only[Bool.not_true,cond_false,cond_true,bd_s,Bool.and_self]
   have hm:=tZ _ a.Entries b.Entries (Nat.le_refl _)
   rw[aBa (fun n s=>∃(i k:Nat) (o:List D.Entry),s=((i:Int),(k:Int),o)∧i≤a.Entries.length∧k≤b.Entries.length∧n≤i+k∧o++dU (a.Entries.drop i) (b.Entries.drop k)=dU a.Entries b.Entries) (a.Entries.length+b.Entries.length) (some (dU a.Entries b.Entries)) (s:=((0:Int),(0:Int),([]:List D.Entry))) (by omega) ⟨0,0,[],rfl,by omega,by omega,by omega,rfl⟩ (fun n s rec hn hv=>by
     obtain⟨i,k,o,rfl,hi,hk,hik,ho⟩:=hv
     have hol:o.length≤40:=by have:=congrArg List.length ho;rw[List.length_append] at this;omega
     have hap:∀x:D.Entry,bD o [x]:=fun x=>by unfold bD;simp only[List.length_singleton];omega
     have wi:IntKind.i64.wrap ((i:Int)+1)=((i+1:Nat):Int):=by rw[aK (by omega) (by omega)];rfl
     have wk:IntKind.i64.wrap ((k:Int)+1)=((k+1:Nat):Int):=by rw[aK (by omega) (by omega)];rfl
     rcases Nat.lt_or_ge i a.Entries.length with hi'|hi'
     ·have ne1:((i:Int)==(a.Entries.length:Int))=false:=by simp;omega
      rw[drop_at hi'] at ho
      rcases Nat.lt_or_ge k b.Entries.length with hk'|hk'
      ·have ne2:((k:Int)==(b.Entries.length:Int))=false:=by simp;omega
       rw[drop_at hk',Vh] at ho
       simp only[bJ hi',bJ hk',cond_true,bd_s,ne2,cond_false,aF hi',aF hk',ne1,aB (hap _),wi,wk,aX1]
       cases h1:eD a.Entries[i] b.Entries[k] with
       |true=>
        rw[h1,cond_true,←drop_at hk'] at ho
        exact .inl ⟨_,⟨i+1,k,o++[a.Entries[i]],rfl,by omega,hk,by omega,by rw[←ho];simp⟩,rfl⟩
       |false=>
        cases h2:eD b.Entries[k] a.Entries[i] with
        |true=>
         rw[h1,cond_false,h2,cond_true,←drop_at hi'] at ho
         exact .inl ⟨_,⟨i,k+1,o++[b.Entries[k]],rfl,hi,by omega,by omega,by rw[←ho];simp⟩,rfl⟩
        |false=>
         rw[h1,cond_false,h2,cond_false] at ho
         exact .inl ⟨_,⟨i+1,k+1,o++[rZ a.Entries[i] b.Entries[k]],rfl,by omega,by omega,by omega,by rw[←ho];simp⟩,rfl⟩
      ·have e:k=b.Entries.length:=by omega
       subst e
       rw[List.drop_length,fA] at ho
       simp only[bJ hi',cond_true,bd_s,beq_self_eq_true,aF hi',aB (hap _),wi]
       exact .inl ⟨_,⟨i+1,_,o++[a.Entries[i]],rfl,by omega,Nat.le_refl _,by omega,by rw[List.drop_length,fA,←ho];simp⟩,rfl⟩
     ·have e:i=a.Entries.length:=by omega
      subst e
      rw[List.drop_length,jW] at ho
      rcases Nat.lt_or_ge k b.Entries.length with hk'|hk'
      ·have ne2:((k:Int)==(b.Entries.length:Int))=false:=by simp;omega
       simp only[bM,cond_false,bJ hk',bd_s,cond_true,ne2,beq_self_eq_true,aF hk',aB (hap _),wk]
       exact .inl ⟨_,⟨_,k+1,o++[b.Entries[k]],rfl,Nat.le_refl _,by omega,by omega,by rw[List.drop_length,jW,←ho,drop_at hk'];simp⟩,rfl⟩
      ·have e2:k=b.Entries.length:=by omega
       subst e2
       rw[List.drop_length,List.append_nil] at ho
       refine .inr ?_
       simp only[bM,cond_false,bd_s]
       rw[ho]) (fun s rec hv=>by
     obtain⟨i,k,o,rfl,hi,hk,hik,ho⟩:=hv
     have e1:i=a.Entries.length:=by omega
     have e2:k=b.Entries.length:=by omega
     subst e1;subst e2
     rw[List.drop_length,List.drop_length,fA,List.append_nil] at ho
     simp only[bM,cond_false,bd_s]
     rw[ho])]
   rw[bd_s,aB (by simp only[D.aAC.sz];omega),bd_s,aB h.1]
   cases aI ⟨dU a.Entries b.Entries⟩<;>rfl
end
end Go.VK
