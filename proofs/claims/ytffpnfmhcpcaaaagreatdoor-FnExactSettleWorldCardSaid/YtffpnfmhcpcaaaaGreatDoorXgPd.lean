import Derived.Test.YtffpnfmhcpcaaaaGreatDoorXgPb
import Derived.Test.YtffpnfmhcpcaaaaGreatDoorXgQ
/-
  Printed by wip/tools (own work of this part): models of functions, walks over the value kit, and proofs.
-/
set_option linter.unusedVariables false
set_option linter.unusedSimpArgs false
set_option maxRecDepth 100000
set_option maxHeartbeats 4000000
namespace Go.VK
open Go.RowKit Go.Proofs
noncomputable section
open EV (bW)
theorem aI6 (a:D.Entry)(s h:Int):Ko a s h=some (sI a s h):=by
 unfold Ko sI
 cases decide (a.Site<s)<;>cases(a.Site==s)<;>rfl
theorem Vd (a b:D.Entry):tV a b=some (dY a b):=by
 unfold tV dY
 cases decide (a.Site<b.Site)<;>cases(a.Site==b.Site)<;>rfl
theorem aTs {l:List D.Entry}{i:Nat}(hi:i<l.length)(hl:l.length≤34359738368){q:D.Entry→Bool}(hq:∀x,q x=dY x l[i]):
  (bif (!dD l[i].Site (0:Int) (2147483646:Int)) then(some (true)) else(bif (!dD l[i].Handle (0:Int) (1000000:Int)) then(some (true)) else(bif (!dD l[i].Version (1:Int) (1000000:Int)) then(some (true)) else(bif (decide ((i:Int)>(0:Int))) then(bd (aT l (IntKind.i64.wrap ((i:Int)-(1:Int)))) fun(z4:(D.Entry))=>some (!q z4)) else(some (false))))))=some (aTa l i l[i]):=by
 unfold aTa
 cases dD l[i].Site 0 2147483646 with
 |false=>rfl
 |true=>
  cases dD l[i].Handle 0 1000000 with
  |false=>rfl
  |true=>
   cases dD l[i].Version 1 1000000 with
   |false=>rfl
   |true=>
    by_cases h0:(i:Int)>0
    ·rw[decide_eq_true h0,aS (by omega) (by omega)]
     have hat:aT l ((i:Int)-1)=some l[i-1]:=by
      rw[show(i:Int)-1=((i-1:Nat):Int) by omega];exact aG (by omega)
     have hg:l.getD (i-1) default=l[i-1]:=by rw[List.getD,List.getElem?_eq_getElem (by omega),Option.getD_some]
     simp only[hat,bd_s,hq,hg,Bool.not_true,cond_false,cond_true,Bool.false_or,Bool.true_and]
    ·rw[decide_eq_false h0];rfl
theorem aEl (b:D.Bundle)(h:b.sz≤34359738368):Ep b=some (bB b):=by
 simp only[D.Bundle.sz] at h
 unfold Ep bB
 rw[gN (l:=b.Entries) (aTa b.Entries) (.inl false) (.inr ()) (by omega) (fun rec i hi=>by
  simp only[bD hi,cond_true,aG hi,bd_s]
  rw[aTs hi h (q:=fun x=>sI x b.Entries[i].Site b.Entries[i].Handle) (fun x=>rfl)]
  rfl) (fun rec=>by simp only[bE,cond_false])]
 cases kF (aTa b.Entries) 0 b.Entries with
 |true=>simp[nx]
 |false=>simp[nx]
theorem aEm (b:D.Bundle)(h:b.sz≤34359738368):Ex b=some (bB b):=by
 simp only[D.Bundle.sz] at h
 unfold Ex bB
 by_cases h20:(b.Entries.length:Int)>20
 ·rw[decide_eq_true h20,show decide ((b.Entries.length:Int)≤20)=false from decide_eq_false (by omega)];rfl
 ·rw[decide_eq_false h20,show decide ((b.Entries.length:Int)≤20)=true from decide_eq_true (by omega),cond_false]
  rw[gN (l:=b.Entries) (aTa b.Entries) (.inl false) (.inr ()) (by omega) (fun rec i hi=>by
   simp only[bD hi,cond_true,aG hi,bd_s]
   rw[aTs hi h (q:=fun x=>dY x b.Entries[i]) (fun x=>rfl)]
   rfl) (fun rec=>by simp only[bE,cond_false])]
  cases kF (aTa b.Entries) 0 b.Entries<;>rfl
theorem aAc (b:D.Bundle)(s h:Int)(hz:b.sz≤34359738368):yN b s h=some (bS b s h):=by
 simp only[D.Bundle.sz] at hz
 unfold yN bS
 exact aZy (l:=b.Entries) (fun(e:D.Entry)=>e.Site==s&&e.Handle==h) (by omega) (fun rec i hi=>by
  simp only[bD hi,cond_true,aG hi,bd_s]
  cases(b.Entries[i].Site==s)<;>rfl) (fun rec=>by simp only[bE,cond_false])
theorem aI7 (b:D.Bundle)(h:b.sz≤34359738368):Js b=some (b):=by
 simp only[D.Bundle.sz] at h
 unfold Js
 rw[aH (by unfold bO;simp only[List.length_nil];omega)];rfl
theorem y9 (b:D.Bundle)(h:b.sz≤34359738368):wG b=some (b):=by
 simp only[D.Bundle.sz] at h
 unfold wG
 rw[aH (by unfold bO;simp only[List.length_nil];omega)];rfl
theorem aWm (p:D.Entry→Bool):∀(l:List D.Entry) (i:Nat),i≤(l.takeWhile p).length→(∃hi:i<l.length,p l[i]=true∧i<(l.takeWhile p).length)∨(i=(l.takeWhile p).length∧∀hi:i<l.length,p l[i]=false)
 |[],i,h=> .inr ⟨by simpa using h,fun hi=>by simp at hi⟩
 |x::l,i,h=>by
  rw[List.takeWhile_cons] at h ⊢
  cases hp:p x with
  |false=>
   rw[hp] at h
   simp at h
   subst h
   exact .inr ⟨by simp,fun _=>hp⟩
  |true=>
   rw[hp] at h
   simp only[if_true,List.length_cons] at h ⊢
   cases i with
   |zero=>exact .inl ⟨by simp,hp,by omega⟩
   |succ i=>
    rcases aWm p l i (by omega) with⟨h1,h2,h3⟩|⟨h1,h2⟩
    ·exact .inl ⟨by simpa using h1,h2,by omega⟩
    ·exact .inr ⟨by omega,fun hi=>h2 (by simpa using hi)⟩
theorem aWn (p:D.Entry→Bool):∀l:List D.Entry,l.take (l.takeWhile p).length=l.takeWhile p
 |[]=>rfl
 |x::l=>by
  rw[List.takeWhile_cons]
  cases p x with
  |false=>rfl
  |true=>simp only[if_true,List.length_cons,List.take_succ_cons];rw[aWn p l]
theorem aWo (p:D.Entry→Bool):∀l:List D.Entry,l.drop (l.takeWhile p).length=l.dropWhile p
 |[]=>rfl
 |x::l=>by
  rw[List.takeWhile_cons,List.dropWhile_cons]
  cases p x with
  |false=>rfl
  |true=>simp only[if_true,List.length_cons,List.drop_succ_cons];rw[aWo p l]
theorem aNg (b:D.Bundle)(x:D.Entry)(h:b.sz≤34359738360):Sw b x=some (aX6 b x):=by
 have h':=h
 simp only[D.Bundle.sz] at h
 unfold Sw aX6
 rw[aH (by omega),bd_s,aH (by omega),bd_s]
 by_cases hf:bS b x.Site x.Handle≥0
 ·rw[decide_eq_true hf,cond_true,cond_true]
  have:=aG0 (show 0≤lF (fun e=>e.Site==x.Site&&e.Handle==x.Handle) 0 b.Entries from hf)
  have hlt:(bS b x.Site x.Handle).toNat<b.Entries.length:=by unfold bS;omega
  rw[aGg hf hlt];rfl
 ·rw[decide_eq_false hf,cond_false,cond_false]
  have htl:(b.Entries.takeWhile fun e=>sI e x.Site x.Handle).length≤b.Entries.length:=(List.takeWhile_sublist _).length_le
  rw[Oq (fun i s=>i≤(b.Entries.takeWhile fun e=>sI e x.Site x.Handle).length∧s=(i:Int)) b.Entries.length (some ((b.Entries.takeWhile fun e=>sI e x.Site x.Handle).length:Int)) (s:=(0:Int)) (by omega) ⟨by omega,rfl⟩ (fun i s rec hi hv=>by
   obtain⟨h1,rfl⟩:=hv
   rcases aWm _ _ i h1 with⟨g1,g2,g3⟩|⟨g1,g2⟩
   ·refine .inl ⟨_,⟨by omega,rfl⟩,?_⟩
    simp only[bD hi,cond_true,aG hi,bd_s,g2]
    rw[aS (by omega) (by omega)];rfl
   ·refine .inr ?_
    simp only[bD hi,cond_true,aG hi,bd_s,g2 hi,cond_false]
    rw[←g1]) (fun s rec hv=>by
   obtain⟨h1,rfl⟩:=hv
   have e:b.Entries.length=(b.Entries.takeWhile fun e=>sI e x.Site x.Handle).length:=by omega
   simp only[bE,cond_false,bd_s]
   rw[←e]),bd_s]
  rw[aH ⟨by omega,by simpa using htl⟩,aH ⟨by omega,by simpa using htl⟩,aH (by unfold bO;simp;omega),aH (by unfold bO;simp;omega),aH (by unfold bO;simp;omega)]
  rw[Int.toNat_natCast,List.nil_append]
  rw[aWn,aWo]
theorem aYc {l:List D.Entry}{k:Int}(h0:0≤k)(h1:k.toNat<l.length)(x:D.Entry):(bd (aT l k) fun(z9:D.Entry)=>bif (decide (x.Version>z9.Version)) then(some (true)) else(bd (aT l k) fun(z10:D.Entry)=>bif (x.Version==z10.Version) then(some (x.Deleted)) else(some (false))))=some (sJ x (l.getD k.toNat default)):=by
 rw[aGg h0 h1,List.getD,List.getElem?_eq_getElem h1,Option.getD_some]
 simp only[bd_s]
 unfold sJ
 cases decide (x.Version>l[k.toNat].Version)<;>cases(x.Version==l[k.toNat].Version)<;>rfl
theorem Pp (a b:D.Bundle)(h:a.sz≤34359738368∧b.sz≤34359738368):qF a b=some (jO a b):=by
 unfold qF jO
 rw[aH h.1,bd_s]
 cases ha:bB a with
 |false=>rw[aH h.1];rfl
 |true=>
  rw[aH h.2]
  cases hb:bB b with
  |false=>rw[aH h.1];rfl
  |true=>
   obtain⟨la,sa⟩:=aQ3 ha
   obtain⟨lb,sb⟩:=aQ3 hb
   rw[aH h.1]
   simp only[Bool.not_true,cond_false,cond_true,bd_s,Bool.and_self]
   rw[aPo (l:=b.Entries) (s0:=a.Entries) (fun o x=>dI o [x]) (fun i o=>srt o∧o.length≤20+i) (fun o=>some o) (by omega) ⟨sa,by omega⟩ (fun i o hi hv=>by
     have:=rJ _ o [b.Entries[i]] (Nat.le_refl _)
     exact⟨aWc hv.1,by simp only[List.length_singleton] at this;omega⟩) (fun rec i o hi hv=>by
     obtain⟨hs,hl⟩:=hv
     simp only[bD hi,cond_true,aG hi,bd_s]
     rw[aH (by simp only[D.Bundle.sz];omega),bd_s,←aZ4 hs]
     have hk:(bif decide (bS ⟨o⟩ b.Entries[i].Site b.Entries[i].Handle<0) then some true else bd (aT o (bS ⟨o⟩ b.Entries[i].Site b.Entries[i].Handle)) fun(z9:D.Entry)=>bif (decide (b.Entries[i].Version>z9.Version)) then(some (true)) else(bd (aT o (bS ⟨o⟩ b.Entries[i].Site b.Entries[i].Handle)) fun(z10:D.Entry)=>bif (b.Entries[i].Version==z10.Version) then(some (b.Entries[i].Deleted)) else(some (false))))=some (decide (bS ⟨o⟩ b.Entries[i].Site b.Entries[i].Handle<0)||sJ b.Entries[i] (o.getD (bS ⟨o⟩ b.Entries[i].Site b.Entries[i].Handle).toNat default)):=by
      by_cases hf:bS ⟨o⟩ b.Entries[i].Site b.Entries[i].Handle<0
      ·rw[decide_eq_true hf];rfl
      ·rw[decide_eq_false hf,cond_false]
       have:=aG0 (show 0≤lF (fun(e:D.Entry)=>e.Site==b.Entries[i].Site&&e.Handle==b.Entries[i].Handle) 0 o from by unfold bS at hf;simp only at hf;omega)
       rw[aYc (by omega) (by unfold bS;simp only;omega)];rfl
     rw[hk,bd_s]
     cases(decide (bS ⟨o⟩ b.Entries[i].Site b.Entries[i].Handle<0)||sJ b.Entries[i] (o.getD (bS ⟨o⟩ b.Entries[i].Site b.Entries[i].Handle).toNat default)) with
     |false=>rfl
     |true=>rw[cond_true,cond_true,aH (by simp only[D.Bundle.sz];omega)];rfl) (fun rec o _=>by simp only[bE,cond_false])]
   rw[aHz _ _ sb,bd_s]
   have hm:=rJ _ a.Entries b.Entries (Nat.le_refl _)
   rw[aH (by simp only[D.Bundle.sz];omega),bd_s]
   cases bB ⟨dI a.Entries b.Entries⟩<;>rfl
theorem drop_at {l:List D.Entry}{i:Nat}(h:i<l.length):l.drop i=l[i]::l.drop (i+1):=List.drop_eq_getElem_cons h
theorem aVe (e f:D.Entry){X:Int×Int×Int×Bool→Option (List D.Entry)}:(bd (bd (bif (decide (f.Version>e.Version)) then(some (true)) else(bif (f.Version==e.Version) then(some (f.Deleted)) else(some (false)))) fun(z10:Bool)=>bif z10 then(some (f.Site,f.Handle,f.Version,f.Deleted)) else(some (e.Site,e.Handle,e.Version,e.Deleted))) X)=X ((pR e f).Site,(pR e f).Handle,(pR e f).Version,(pR e f).Deleted):=by
 unfold pR sJ
 cases decide (f.Version>e.Version)<;>cases(f.Version==e.Version)<;>cases hd:f.Deleted<;>simp[bd,hd]
theorem Pq (a b:D.Bundle)(h:a.sz≤34359738368∧b.sz≤34359738368):qJ a b=some (jO a b):=by
 unfold qJ jO
 rw[aH h.1,bd_s]
 cases ha:bB a with
 |false=>rw[aH h.1];rfl
 |true=>
  rw[aH h.2]
  cases hb:bB b with
  |false=>rw[aH h.1];rfl
  |true=>
   obtain⟨la,sa⟩:=aQ3 ha
   obtain⟨lb,sb⟩:=aQ3 hb
   simp only[Bool.not_true,cond_false,cond_true,bd_s,Bool.and_self]
   have hm:=rJ _ a.Entries b.Entries (Nat.le_refl _)
   rw[Oq (fun n s=>∃(i k:Nat) (o:List D.Entry),s=((i:Int),(k:Int),o)∧i≤a.Entries.length∧k≤b.Entries.length∧n≤i+k∧o++dI (a.Entries.drop i) (b.Entries.drop k)=dI a.Entries b.Entries) (a.Entries.length+b.Entries.length) (some (dI a.Entries b.Entries)) (s:=((0:Int),(0:Int),([]:List D.Entry))) (by omega) ⟨0,0,[],rfl,by omega,by omega,by omega,rfl⟩ (fun n s rec hn hv=>by
     obtain⟨i,k,o,rfl,hi,hk,hik,ho⟩:=hv
     have hol:o.length≤40:=by have:=congrArg List.length ho;rw[List.length_append] at this;omega
     have hap:∀x:D.Entry,bO o [x]:=fun x=>by unfold bO;simp only[List.length_singleton];omega
     have wi:IntKind.i64.wrap ((i:Int)+1)=((i+1:Nat):Int):=by rw[aS (by omega) (by omega)];rfl
     have wk:IntKind.i64.wrap ((k:Int)+1)=((k+1:Nat):Int):=by rw[aS (by omega) (by omega)];rfl
     rcases Nat.lt_or_ge i a.Entries.length with hi'|hi'
     ·have ne1:((i:Int)==(a.Entries.length:Int))=false:=by simp;omega
      rw[drop_at hi'] at ho
      rcases Nat.lt_or_ge k b.Entries.length with hk'|hk'
      ·have ne2:((k:Int)==(b.Entries.length:Int))=false:=by simp;omega
       rw[drop_at hk',Uh] at ho
       simp only[bD hi',bD hk',cond_true,bd_s,ne2,cond_false,aG hi',aG hk',ne1,aH (hap _),wi,wk,aVe]
       cases h1:dY a.Entries[i] b.Entries[k] with
       |true=>
        rw[h1,cond_true,←drop_at hk'] at ho
        exact .inl ⟨_,⟨i+1,k,o++[a.Entries[i]],rfl,by omega,hk,by omega,by rw[←ho];simp⟩,rfl⟩
       |false=>
        cases h2:dY b.Entries[k] a.Entries[i] with
        |true=>
         rw[h1,cond_false,h2,cond_true,←drop_at hi'] at ho
         exact .inl ⟨_,⟨i,k+1,o++[b.Entries[k]],rfl,hi,by omega,by omega,by rw[←ho];simp⟩,rfl⟩
        |false=>
         rw[h1,cond_false,h2,cond_false] at ho
         exact .inl ⟨_,⟨i+1,k+1,o++[pR a.Entries[i] b.Entries[k]],rfl,by omega,by omega,by omega,by rw[←ho];simp⟩,rfl⟩
      ·have e:k=b.Entries.length:=by omega
       subst e
       rw[List.drop_length,dZ] at ho
       simp only[bD hi',cond_true,bd_s,beq_self_eq_true,aG hi',aH (hap _),wi]
       exact .inl ⟨_,⟨i+1,_,o++[a.Entries[i]],rfl,by omega,Nat.le_refl _,by omega,by rw[List.drop_length,dZ,←ho];simp⟩,rfl⟩
     ·have e:i=a.Entries.length:=by omega
      subst e
      rw[List.drop_length,iW] at ho
      rcases Nat.lt_or_ge k b.Entries.length with hk'|hk'
      ·have ne2:((k:Int)==(b.Entries.length:Int))=false:=by simp;omega
       simp only[bE,cond_false,bD hk',bd_s,cond_true,ne2,beq_self_eq_true,aG hk',aH (hap _),wk]
       exact .inl ⟨_,⟨_,k+1,o++[b.Entries[k]],rfl,Nat.le_refl _,by omega,by omega,by rw[List.drop_length,iW,←ho,drop_at hk'];simp⟩,rfl⟩
      ·have e2:k=b.Entries.length:=by omega
       subst e2
       rw[List.drop_length,List.append_nil] at ho
       refine .inr ?_
       simp only[bE,cond_false,bd_s]
       rw[ho]) (fun s rec hv=>by
     obtain⟨i,k,o,rfl,hi,hk,hik,ho⟩:=hv
     have e1:i=a.Entries.length:=by omega
     have e2:k=b.Entries.length:=by omega
     subst e1;subst e2
     rw[List.drop_length,List.drop_length,dZ,List.append_nil] at ho
     simp only[bE,cond_false,bd_s]
     rw[ho])]
   rw[bd_s,aH (by simp only[D.Bundle.sz];omega),bd_s,aH h.1]
   cases bB ⟨dI a.Entries b.Entries⟩<;>rfl
end
end Go.VK
